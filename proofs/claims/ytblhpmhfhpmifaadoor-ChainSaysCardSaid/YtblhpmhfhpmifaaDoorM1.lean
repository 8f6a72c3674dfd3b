/- Part M 1 of what the proof of ChainSays stands on: plain facts of graphs and sets, with no program in sight. -/
import Derived.Test.YtblhpmhfhpmifaaDoorAw2
set_option linter.unusedVariables false
set_option linter.unusedSimpArgs false
namespace Go.Proofs
open Go.Aw
set_option linter.unusedSimpArgs false
def pts (s : Nat) : List Nat := (List.range 64).filter fun i => s.testBit i
def ptsI (s : Nat) : List Int := (pts s).map Int.ofNat

theorem pts_len (s : Nat) : (pts s).length ≤ 64 := by
  have := List.length_filter_le (fun i => s.testBit i) (List.range 64)
  simpa [pts] using this
theorem ptsI_len (s : Nat) : (ptsI s).length ≤ 64 := by simpa [ptsI] using pts_len s

def outF (s : List Nat) (p : Nat × Nat) : List Nat := s.set p.1 (s.getD p.1 default ||| 2 ^ p.2)
def outS (n : Nat) (l : List (Nat × Nat)) : List Nat := l.foldl outF (List.replicate n 0)
theorem outS_snoc (n : Nat) (l : List (Nat × Nat)) (p : Nat × Nat) : outS n (l ++ [p]) = outF (outS n l) p := by simp [outS]
theorem outS_len (n : Nat) (l : List (Nat × Nat)) : (outS n l).length = n := by
  unfold outS
  generalize h : List.replicate n 0 = s
  have hs : s.length = n := by rw [← h]; simp
  clear h
  induction l generalizing s with
  | nil => exact hs
  | cons p l ih => exact ih _ (by simp [outF, hs])
theorem outS_lt (n : Nat) (l : List (Nat × Nat)) (hl : ∀ p ∈ l, p.2 < 64) : ∀ x ∈ outS n l, x < 2 ^ 64 := by
  unfold outS
  generalize h : List.replicate n 0 = s
  have hs : ∀ x ∈ s, x < 2 ^ 64 := by rw [← h]; intro x hx; obtain ⟨_, rfl⟩ := List.mem_replicate.1 hx; decide
  clear h
  induction l generalizing s with
  | nil => exact hs
  | cons p l ih =>
    refine ih (fun q hq => hl q (by simp [hq])) _ (fun x hx => ?_)
    rcases List.mem_or_eq_of_mem_set hx with h | rfl
    · exact hs x h
    · refine Nat.or_lt_two_pow ?_ (Nat.pow_lt_pow_right (by omega) (hl p (by simp)))
      rw [List.getD_eq_getElem?_getD]
      cases hx : s[p.1]? with
      | none => decide
      | some y => exact hs y (List.mem_of_getElem? hx)

theorem prefix_map {pre : List Int} {x : Int} {l : List Nat} (h : pre ++ [x] <+: l.map Int.ofNat) : ∃ (p : List Nat) (c : Nat), pre = p.map Int.ofNat ∧ x = (c : Int) ∧ p ++ [c] <+: l := by
  obtain ⟨t, ht⟩ := h
  have hl := congrArg List.length ht
  simp at hl
  refine ⟨l.take pre.length, l.getD pre.length default, ?_, ?_, ?_⟩
  · have := congrArg (List.take pre.length) ht
    rw [← List.map_take] at this
    rw [← this]; simp
  · have := congrArg (fun l => l[pre.length]?) ht
    have hlt : pre.length < l.length := by omega
    simp [hlt] at this
    rw [List.getD_eq_getElem?_getD, List.getElem?_eq_getElem hlt]
    exact this
  · rw [← take_succ_getD (by omega)]
    exact List.take_prefix _ _
theorem ofNat_inj : ∀ {a b : List Nat}, a.map Int.ofNat = b.map Int.ofNat → a = b := by
  intro a
  induction a with
  | nil => intro b h; cases b with
    | nil => rfl
    | cons y b => simp at h
  | cons x a ih => intro b h; cases b with
    | nil => simp at h
    | cons y b =>
      simp only [List.map_cons, List.cons.injEq] at h
      rw [ih h.2, Int.ofNat_inj.1 h.1]
theorem pts_mem (s c : Nat) : c ∈ pts s ↔ c < 64 ∧ s.testBit c = true := by simp [pts]

theorem cnt_add (s d : Nat) (h : ∀ j, d.testBit j = true → s.testBit j = false) : cnt (addAll s (pts d)) = cnt s + (pts d).length := by
  have key : ∀ L : List Nat, (∀ j ∈ L, j < 64) → (L.countP fun j => (addAll s (pts d)).testBit j) = (L.countP fun j => s.testBit j) + (L.filter fun j => d.testBit j).length := by
    intro L
    induction L with
    | nil => intro _; rfl
    | cons j L ih =>
      intro hj
      rw [List.countP_cons, List.countP_cons, ih (fun x hx => hj x (by simp [hx])), List.filter_cons]
      have hb : (addAll s (pts d)).testBit j = (s.testBit j || d.testBit j) := by
        rw [Bool.eq_iff_iff, addAll_bit, pts_mem, Bool.or_eq_true]
        have := hj j (by simp)
        constructor
        · rintro (h | ⟨_, h⟩)
          · exact .inl h
          · exact .inr h
        · rintro (h | h)
          · exact .inl h
          · exact .inr ⟨this, h⟩
      have := h j
      cases h1 : s.testBit j <;> cases h2 : d.testBit j <;> simp [hb, h1, h2] at this ⊢ <;> omega
  exact key (List.range 64) (fun j hj => by simpa using hj)

/-! Plain facts of graphs. -/
theorem set_getD {α : Type} [Inhabited α] (s : List α) (i j : Nat) (x : α) : (s.set i x).getD j default = if i = j ∧ j < s.length then x else s.getD j default := by
  rw [List.getD_eq_getElem?_getD, List.getD_eq_getElem?_getD, List.getElem?_set]
  by_cases h : i = j
  · subst h
    by_cases h2 : i < s.length
    · simp [h2]
    · simp [h2]
  · simp [h]
theorem two_pow_bit (i j : Nat) : (2 ^ i).testBit j = true ↔ i = j := by
  by_cases h : i = j
  · subst h; simp [Nat.testBit_two_pow_self]
  · simp [Nat.testBit_two_pow_of_ne h, h]
theorem outS_bit (n : Nat) (l : List (Nat × Nat)) (a b : Nat) : ((outS n l).getD a default).testBit b = true ↔ a < n ∧ (a, b) ∈ l := by
  have : ∀ s : List Nat, s.length = n → (((l.foldl outF s).getD a default).testBit b = true ↔ (s.getD a default).testBit b = true ∨ (a < n ∧ (a, b) ∈ l)) := by
    induction l with
    | nil => intro s _; simp
    | cons p l ih =>
      intro s hs
      rw [List.foldl_cons, ih _ (by simp [outF, hs])]
      unfold outF
      rw [set_getD, hs]
      by_cases h : p.1 = a ∧ a < n
      · rw [if_pos h]
        obtain ⟨rfl, h2⟩ := h
        rw [Nat.testBit_or, Bool.or_eq_true, two_pow_bit, List.mem_cons]
        constructor
        · rintro ((h | rfl) | h)
          · exact .inl h
          · exact .inr ⟨h2, .inl rfl⟩
          · exact .inr ⟨h.1, .inr h.2⟩
        · rintro (h | ⟨_, h | h⟩)
          · exact .inl (.inl h)
          · exact .inl (.inr (by rw [← h]))
          · exact .inr ⟨h2, h⟩
      · rw [if_neg h, List.mem_cons]
        constructor
        · rintro (h | h)
          · exact .inl h
          · exact .inr ⟨h.1, .inr h.2⟩
        · rintro (h' | ⟨h1, h' | h'⟩)
          · exact .inl h'
          · exact absurd ⟨by rw [← h'], h1⟩ h
          · exact .inr ⟨h1, h'⟩
  have h0 := this (List.replicate n 0) (by simp)
  rw [outS, h0]
  have : ((List.replicate n 0).getD a default).testBit b = false := by
    rw [List.getD_eq_getElem?_getD, List.getElem?_replicate]
    split <;> simp
  rw [this]; simp
/-- Ways. -/
inductive Path (l : List (Nat × Nat)) (a : Nat) : Nat → Prop
  | refl : Path l a a
  | step {b c : Nat} (h : Path l a b) (h1 : (b, c) ∈ l) : Path l a c
theorem Path.trans {l : List (Nat × Nat)} {a b c : Nat} (h : Path l a b) (k : Path l b c) : Path l a c := by
  induction k with
  | refl => exact h
  | step _ h1 ih => exact .step ih h1
theorem Path.one {l : List (Nat × Nat)} {a b : Nat} (h : (a, b) ∈ l) : Path l a b := .step .refl h
theorem Path.mono {l l' : List (Nat × Nat)} (hl : ∀ p ∈ l, p ∈ l') {a b : Nat} (h : Path l a b) : Path l' a b := by
  induction h with
  | refl => exact .refl
  | step _ h1 ih => exact .step ih (hl _ h1)
def flip (p : Nat × Nat) : Nat × Nat := (p.2, p.1)
theorem flip_mem {l : List (Nat × Nat)} {a b : Nat} : (a, b) ∈ l.map flip ↔ (b, a) ∈ l := by
  simp only [List.mem_map, flip]
  constructor
  · rintro ⟨⟨x, y⟩, h, e⟩
    cases e
    exact h
  · intro h; exact ⟨_, h, rfl⟩
theorem Path.flip {l : List (Nat × Nat)} {a b : Nat} (h : Path l a b) : Path (l.map flip) b a := by
  induction h with
  | refl => exact .refl
  | step _ h1 ih => exact (Path.one (flip_mem.2 h1)).trans ih
/-- Lines between n points. -/
def Good (n : Nat) (l : List (Nat × Nat)) : Prop := ∀ p ∈ l, p.1 < n ∧ p.2 < n
theorem Good.flip {n : Nat} {l : List (Nat × Nat)} (h : Good n l) : Good n (l.map flip) := by
  intro p hp
  obtain ⟨q, hq, rfl⟩ := List.mem_map.1 hp
  exact ⟨(h q hq).2, (h q hq).1⟩
theorem Path.lt {n : Nat} {l : List (Nat × Nat)} (hg : Good n l) {a b : Nat} (ha : a < n) (h : Path l a b) : b < n := by
  cases h with
  | refl => exact ha
  | step _ h1 => exact (hg _ h1).2
theorem below_bit (n j : Nat) : (2 ^ n - 1).testBit j = true ↔ j < n := by
  rw [Nat.testBit_two_pow_sub_one]; simp
theorem rch_path {n : Nat} {l : List (Nat × Nat)} (hg : Good n l) {a b : Nat} (ha : a < n) : Rch (outS n l) (2 ^ n - 1) a b ↔ Path l a b := by
  constructor
  · intro h
    induction h with
    | refl => exact .refl
    | step _ h1 _ ih => exact .step ih ((outS_bit _ _ _ _).1 h1).2
  · intro h
    induction h with
    | refl => exact .refl
    | step h h1 ih => exact .step ih ((outS_bit _ _ _ _).2 ⟨h.lt hg ha, h1⟩) ((below_bit _ _).2 (hg _ h1).2)
theorem outS_lt' {n : Nat} {l : List (Nat × Nat)} (hn : n ≤ 64) (hg : Good n l) : ∀ x ∈ outS n l, x < 2 ^ 64 := outS_lt n l fun p hp => Nat.lt_of_lt_of_le (hg p hp).2 hn
/-- The points to which ways go. -/
def rs (n : Nat) (l : List (Nat × Nat)) (a : Nat) : Nat := reach (outS n l) (2 ^ n - 1) a
theorem rs_bit {n : Nat} {l : List (Nat × Nat)} (hn : n ≤ 64) (hg : Good n l) {a : Nat} (ha : a < n) (b : Nat) : (rs n l a).testBit b = true ↔ Path l a b := by
  rw [rs, reach_bit (outS_lt' hn hg) (by omega), rch_path hg ha]
/-- The least point. -/
def low (s : Nat) : Nat := (pts s).getD 0 default
theorem low_spec {s i : Nat} (h : s.testBit i = true) (hi : i < 64) : pts s ≠ [] ∧ s.testBit (low s) = true ∧ low s ≤ i := by
  have hm : i ∈ pts s := (pts_mem s i).2 ⟨hi, h⟩
  have hne : pts s ≠ [] := List.ne_nil_of_mem hm
  refine ⟨hne, ?_⟩
  have hs : (pts s).Pairwise (· < ·) := List.Pairwise.filter _ List.pairwise_lt_range
  unfold low
  cases hp : pts s with
  | nil => exact absurd hp hne
  | cons x t =>
    rw [hp] at hm hs
    have hx : x ∈ pts s := by rw [hp]; simp
    refine ⟨((pts_mem s x).1 hx).2, ?_⟩
    rcases List.mem_cons.1 hm with rfl | hm
    · exact Nat.le_refl _
    · exact Nat.le_of_lt ((List.pairwise_cons.1 hs).1 i hm)
end Go.Proofs

namespace Go.Proofs
open Go.Aw
/-- Ways of a line, or several. -/
def Path1 (l : List (Nat × Nat)) (a b : Nat) : Prop := ∃ c, (a, c) ∈ l ∧ Path l c b
theorem Path1.path {l : List (Nat × Nat)} {a b : Nat} (h : Path1 l a b) : Path l a b := by
  obtain ⟨c, h1, h2⟩ := h
  exact (Path.one h1).trans h2
theorem Path1.trans {l : List (Nat × Nat)} {a b c : Nat} (h : Path1 l a b) (k : Path l b c) : Path1 l a c := by
  obtain ⟨d, h1, h2⟩ := h
  exact ⟨d, h1, h2.trans k⟩
theorem Path1.mono {l l' : List (Nat × Nat)} (hl : ∀ p ∈ l, p ∈ l') {a b : Nat} (h : Path1 l a b) : Path1 l' a b := by
  obtain ⟨c, h1, h2⟩ := h
  exact ⟨c, hl _ h1, h2.mono hl⟩
theorem Path1.last {l : List (Nat × Nat)} {a b : Nat} (h : Path1 l a b) : ∃ c, Path l a c ∧ (c, b) ∈ l := by
  obtain ⟨c, h1, h2⟩ := h
  cases h2 with
  | refl => exact ⟨a, .refl, h1⟩
  | step h2 h3 => exact ⟨_, (Path.one h1).trans h2, h3⟩
theorem Path1.lt {n : Nat} {l : List (Nat × Nat)} (hg : Good n l) {a b : Nat} (h : Path1 l a b) : a < n ∧ b < n := by
  obtain ⟨c, h1, h2⟩ := h
  exact ⟨(hg _ h1).1, h2.lt hg (hg _ h1).2⟩
def warI (k : Nat) (s : List Nat) (i : Nat) : List Nat := if (s.getD i default).testBit k then s.set i (s.getD i default ||| s.getD k default) else s
def warK (n : Nat) (s : List Nat) (k : Nat) : List Nat := (List.range n).foldl (warI k) s
def warS (n : Nat) (s : List Nat) (m : Nat) : List Nat := (List.range m).foldl (warK n) s
def war (n : Nat) (l : List (Nat × Nat)) : List Nat := warS n (outS n l) n
theorem warI_len (k : Nat) (s : List Nat) (i : Nat) : (warI k s i).length = s.length := by unfold warI; split <;> simp
theorem range_foldl {α : Type} (f : α → Nat → α) (a : α) (n : Nat) : (List.range (n + 1)).foldl f a = f ((List.range n).foldl f a) n := by rw [List.range_succ, List.foldl_append]; rfl
def wOr (s : List Nat) (k i : Nat) : Nat := if (s.getD i default).testBit k then s.getD i default ||| s.getD k default else s.getD i default
theorem warI_get (k : Nat) (s : List Nat) (i j : Nat) (hi : i < s.length) : (warI k s i).getD j default = if j = i then wOr s k i else s.getD j default := by
  unfold warI wOr
  split
  · rw [set_getD]
    by_cases h : i = j
    · subst h; simp [hi]
    · rw [if_neg (by simp [h]), if_neg (fun e => h e.symm)]
  · split
    · rename_i h; rw [h]
    · rfl
theorem warIs_get (k : Nat) (s : List Nat) (m : Nat) (hm : m ≤ s.length) : ((List.range m).foldl (warI k) s).length = s.length ∧ ∀ j, ((List.range m).foldl (warI k) s).getD j default = if j < m then wOr s k j else s.getD j default := by
  induction m with
  | zero => simp
  | succ m ih =>
    obtain ⟨h1, h2⟩ := ih (by omega)
    rw [range_foldl]
    refine ⟨by rw [warI_len, h1], fun j => ?_⟩
    rw [warI_get _ _ _ _ (by rw [h1]; omega)]
    have hk : ((List.range m).foldl (warI k) s).getD k default = s.getD k default := by
      rw [h2]
      split
      · unfold wOr; split <;> simp
      · rfl
    by_cases hj : j = m
    · subst hj
      rw [if_pos rfl, if_pos (Nat.lt_succ_self j)]
      have h3 := h2 j
      rw [if_neg (Nat.lt_irrefl j)] at h3
      unfold wOr
      rw [hk, h3]
    · rw [if_neg hj, h2]
      by_cases h3 : j < m
      · rw [if_pos h3, if_pos (by omega)]
      · rw [if_neg h3, if_neg (by omega)]
theorem warK_get (n : Nat) (s : List Nat) (k : Nat) (hs : s.length = n) : (warK n s k).length = n ∧ ∀ j, (warK n s k).getD j default = wOr s k j := by
  obtain ⟨h1, h2⟩ := warIs_get k s n (by omega)
  refine ⟨by rw [warK, h1, hs], fun j => ?_⟩
  rw [warK, h2]
  split
  · rfl
  · have : s.getD j default = 0 := by rw [List.getD_eq_getElem?_getD, List.getElem?_eq_none (by omega)]; rfl
    unfold wOr
    rw [this]
    simp
/-- Warshall's relation. -/
def WR (l : List (Nat × Nat)) : Nat → Nat → Nat → Prop
  | 0, i, j => (i, j) ∈ l
  | k + 1, i, j => WR l k i j ∨ (WR l k i k ∧ WR l k k j)
theorem WR.sound {l : List (Nat × Nat)} {k i j : Nat} (h : WR l k i j) : Path1 l i j := by
  induction k generalizing i j with
  | zero => exact ⟨j, h, .refl⟩
  | succ k ih =>
    rcases h with h | ⟨h1, h2⟩
    · exact ih h
    · exact (ih h1).trans (ih h2).path
theorem WR.tr {l : List (Nat × Nat)} {k : Nat} : ∀ {i m j : Nat}, m < k → WR l k i m → WR l k m j → WR l k i j := by
  induction k with
  | zero => intro i m j h; omega
  | succ k ih =>
    intro i m j hm h1 h2
    by_cases hk : m < k
    · rcases h1 with h1 | ⟨h1, h1'⟩ <;> rcases h2 with h2 | ⟨h2, h2'⟩
      · exact .inl (ih hk h1 h2)
      · exact .inr ⟨ih hk h1 h2, h2'⟩
      · exact .inr ⟨h1, ih hk h1' h2⟩
      · exact .inr ⟨h1, h2'⟩
    · obtain rfl : m = k := by omega
      have a : WR l m i m := h1.elim id (fun h => h.1)
      have b : WR l m m j := h2.elim id (fun h => h.2)
      exact .inr ⟨a, b⟩
theorem WR.base {l : List (Nat × Nat)} {i j : Nat} (h : (i, j) ∈ l) : ∀ k, WR l k i j
  | 0 => h
  | k + 1 => .inl (WR.base h k)
theorem WR.all {n : Nat} {l : List (Nat × Nat)} (hg : Good n l) {i j : Nat} : WR l n i j ↔ Path1 l i j := by
  refine ⟨WR.sound, ?_⟩
  rintro ⟨c, h1, h2⟩
  have : WR l n i j ∧ j < n := by
    induction h2 with
    | refl => exact ⟨.base h1 n, (hg _ h1).2⟩
    | step _ h3 ih => exact ⟨.tr ih.2 ih.1 (.base h3 n), (hg _ h3).2⟩
  exact this.1
theorem warS_get (n : Nat) (l : List (Nat × Nat)) (m : Nat) (hg : Good n l) : (warS n (outS n l) m).length = n ∧ ∀ i j, ((warS n (outS n l) m).getD i default).testBit j = true ↔ WR l m i j := by
  induction m with
  | zero =>
    refine ⟨by simpa [warS] using outS_len n l, fun i j => ?_⟩
    show ((outS n l).getD i default).testBit j = true ↔ _
    rw [outS_bit]
    exact ⟨fun h => h.2, fun h => ⟨(hg _ h).1, h⟩⟩
  | succ m ih =>
    obtain ⟨h1, h2⟩ := ih
    have : warS n (outS n l) (m + 1) = warK n (warS n (outS n l) m) m := range_foldl _ _ _
    rw [this]
    obtain ⟨h3, h4⟩ := warK_get n _ m h1
    refine ⟨h3, fun i j => ?_⟩
    rw [h4]
    show _ ↔ WR l m i j ∨ (WR l m i m ∧ WR l m m j)
    unfold wOr
    rw [← h2, ← h2, ← h2]
    split
    · rename_i h; rw [Nat.testBit_or, Bool.or_eq_true]
      exact ⟨fun h' => h'.elim .inl (fun h2 => .inr ⟨h, h2⟩), fun h' => h'.elim .inl (fun h2 => .inr h2.2)⟩
    · rename_i h
      exact ⟨.inl, fun h' => h'.elim id (fun h2 => absurd h2.1 h)⟩
theorem war_len {n : Nat} {l : List (Nat × Nat)} (hg : Good n l) : (war n l).length = n := (warS_get n l n hg).1
theorem war_bit {n : Nat} {l : List (Nat × Nat)} (hg : Good n l) (i j : Nat) : ((war n l).getD i default).testBit j = true ↔ Path1 l i j := by
  rw [war, (warS_get n l n hg).2, WR.all hg]
end Go.Proofs

namespace Go.Proofs
open Go.Aw
/-- The least point there and back. -/
def part (n : Nat) (l : List (Nat × Nat)) (i : Nat) : Nat := low (rs n l i &&& rs n (l.map flip) i)
def strongP (n : Nat) (l : List (Nat × Nat)) : List Nat := (List.range n).map (part n l)
def Mut (l : List (Nat × Nat)) (a b : Nat) : Prop := Path l a b ∧ Path l b a
theorem Mut.refl (l : List (Nat × Nat)) (a : Nat) : Mut l a a := ⟨.refl, .refl⟩
theorem Mut.symm {l : List (Nat × Nat)} {a b : Nat} (h : Mut l a b) : Mut l b a := ⟨h.2, h.1⟩
theorem Mut.trans {l : List (Nat × Nat)} {a b c : Nat} (h : Mut l a b) (k : Mut l b c) : Mut l a c := ⟨h.1.trans k.1, k.2.trans h.2⟩
section
variable {n : Nat} {l : List (Nat × Nat)} (hn : n ≤ 64) (hg : Good n l)
include hn hg
end
theorem Path.congr {l l' : List (Nat × Nat)} (h : ∀ p, p ∈ l ↔ p ∈ l') {a b : Nat} : Path l a b ↔ Path l' a b := ⟨Path.mono fun p => (h p).1, Path.mono fun p => (h p).2⟩
/-- Lines from the last one on, each the other way. -/
def backL (l : List (Nat × Nat)) : List (Nat × Nat) := l.reverse.map flip
end Go.Proofs

namespace Go.Proofs
open Go.Aw
/-- All that some points have. -/
def orL (next : List Nat) (L : List Nat) : Nat := L.foldl (fun u b => u ||| next.getD b default) 0
theorem orL_snoc (next L : List Nat) (b : Nat) : orL next (L ++ [b]) = orL next L ||| next.getD b default := by simp [orL]
theorem orL_bit (next L : List Nat) (j : Nat) : (orL next L).testBit j = true ↔ ∃ b ∈ L, (next.getD b default).testBit j = true := by
  unfold orL
  have : ∀ u : Nat, (L.foldl (fun u b => u ||| next.getD b default) u).testBit j = true ↔ u.testBit j = true ∨ ∃ b ∈ L, (next.getD b default).testBit j = true := by
    induction L with
    | nil => intro u; simp
    | cons b L ih =>
      intro u
      rw [List.foldl_cons, ih, Nat.testBit_or, Bool.or_eq_true]
      constructor
      · rintro ((h | h) | ⟨c, h1, h2⟩)
        · exact .inl h
        · exact .inr ⟨b, by simp, h⟩
        · exact .inr ⟨c, by simp [h1], h2⟩
      · rintro (h | ⟨c, h1, h2⟩)
        · exact .inl (.inl h)
        · rcases List.mem_cons.1 h1 with rfl | h1
          · exact .inl (.inr h2)
          · exact .inr ⟨c, h1, h2⟩
  rw [this]
  simp
theorem orL_lt {next : List Nat} (hn : ∀ x ∈ next, x < 2 ^ 64) (L : List Nat) : orL next L < 2 ^ 64 := by
  apply Nat.lt_pow_two_of_testBit
  intro i hi
  rw [← Bool.not_eq_true, orL_bit]
  rintro ⟨b, _, h⟩
  have : next.getD b default < 2 ^ 64 := by
    rw [List.getD_eq_getElem?_getD]
    cases hx : next[b]? with
    | none => decide
    | some y => exact hn y (List.mem_of_getElem? hx)
  rw [Nat.testBit_lt_two_pow (Nat.lt_of_lt_of_le this (Nat.pow_le_pow_right (by omega) hi))] at h
  cases h
/-- Those that can be next. -/
def freeS (next : List Nat) (left : Nat) : Nat := dif left (orL next (pts left))
def topoGo (next : List Nat) : Nat → Nat → List Nat → Option (List Nat)
  | 0, _, acc => some acc
  | m + 1, left, acc => if left = 0 then some acc else if pts (freeS next left) = [] then none else topoGo next m (dif left (2 ^ low (freeS next left))) (acc ++ [low (freeS next left)])
/-- The order of the points. -/
def topoO (n : Nat) (l : List (Nat × Nat)) : Option (List Nat) := topoGo (outS n l) n (2 ^ n - 1) []
/-- What holds of an order that is begun. -/
structure TI (n : Nat) (l : List (Nat × Nat)) (left : Nat) (acc : List Nat) : Prop where
  lt : ∀ i, left.testBit i = true → i < n
  all : ∀ i, i < n → (left.testBit i = true ∨ i ∈ acc)
  out : ∀ i ∈ acc, i < n ∧ left.testBit i = false
  nodup : acc.Nodup
  fwd : ∀ (a b : Nat), (a, b) ∈ l → ∀ (s t : List Nat), acc = s ++ b :: t → a ∈ s
theorem low_mem {s : Nat} (h : pts s ≠ []) : low s ∈ pts s := by
  unfold low
  cases hp : pts s with
  | nil => exact absurd hp h
  | cons x t => simp
theorem free_bit {n : Nat} {l : List (Nat × Nat)} {left : Nat} (hn : n ≤ 64) (hl : ∀ i, left.testBit i = true → i < n) (j : Nat) : (freeS (outS n l) left).testBit j = true ↔ left.testBit j = true ∧ ∀ a, left.testBit a = true → (a, j) ∉ l := by
  unfold freeS
  rw [dif_bit, Bool.and_eq_true, Bool.not_eq_true', ← Bool.not_eq_true, orL_bit]
  refine and_congr_right fun hj => ?_
  constructor
  · intro h a ha hm
    exact h ⟨a, (pts_mem _ _).2 ⟨by have := hl a ha; omega, ha⟩, (outS_bit _ _ _ _).2 ⟨hl a ha, hm⟩⟩
  · rintro h ⟨a, ha, hm⟩
    exact h a ((pts_mem _ _).1 ha).2 ((outS_bit _ _ _ _).1 hm).2
theorem TI.next {n : Nat} {l : List (Nat × Nat)} {left : Nat} {acc : List Nat} (hn : n ≤ 64) (hg : Good n l) (h : TI n l left acc) {j : Nat} (hj : (freeS (outS n l) left).testBit j = true) : TI n l (dif left (2 ^ j)) (acc ++ [j]) := by
  have hf := (free_bit hn h.lt j).1 hj
  have hb : ∀ i, (dif left (2 ^ j)).testBit i = true ↔ left.testBit i = true ∧ ¬ i = j := fun i => by
    rw [dif_bit, Bool.and_eq_true, Bool.not_eq_true', ← Bool.not_eq_true, two_pow_bit]
    exact and_congr_right fun _ => ⟨fun h e => h e.symm, fun h e => h e.symm⟩
  refine ⟨fun i hi => h.lt i ((hb i).1 hi).1, fun i hi => ?_, fun i hi => ?_, ?_, ?_⟩
  · rcases h.all i hi with h1 | h1
    · by_cases e : i = j
      · exact .inr (by simp [e])
      · exact .inl ((hb i).2 ⟨h1, e⟩)
    · exact .inr (by simp [h1])
  · rw [← Bool.not_eq_true, hb]
    rcases List.mem_append.1 hi with h1 | h1
    · obtain ⟨h2, h3⟩ := h.out i h1
      exact ⟨h2, fun h' => by rw [h3] at h'; cases h'.1⟩
    · obtain rfl := List.mem_singleton.1 h1
      exact ⟨h.lt i hf.1, fun h' => h'.2 rfl⟩
  · rw [List.nodup_append]
    refine ⟨h.nodup, by simp, fun a ha b hb e => ?_⟩
    obtain rfl := List.mem_singleton.1 hb
    subst e
    have := (h.out a ha).2
    rw [hf.1] at this; cases this
  · intro a b hab s t e
    rcases List.eq_nil_or_concat t with rfl | ⟨t', x, rfl⟩
    · have e' := congrArg List.reverse e
      simp at e'
      obtain ⟨rfl, rfl⟩ := e'
      rcases h.all a (hg _ hab).1 with h1 | h1
      · exact absurd hab (hf.2 a h1)
      · exact h1
    · have e' : acc ++ [j] = (s ++ b :: t') ++ [x] := by rw [e]; simp
      obtain ⟨e1, _⟩ := List.append_inj' e' rfl
      exact h.fwd a b hab s t' e1
theorem TI.start (n : Nat) (l : List (Nat × Nat)) : TI n l (2 ^ n - 1) [] :=
  ⟨fun i hi => (below_bit n i).1 hi, fun i hi => .inl ((below_bit n i).2 hi), fun i hi => by simp at hi, List.nodup_nil, fun a b _ s t e => by simp at e⟩
theorem pig {α : Type} [BEq α] [LawfulBEq α] : ∀ {L M : List α}, L.Nodup → (∀ x ∈ L, x ∈ M) → L.length ≤ M.length := by
  intro L
  induction L with
  | nil => intro M _ _; simp
  | cons x L ih =>
    intro M hn hs
    obtain ⟨h1, h2⟩ := List.nodup_cons.1 hn
    have hx := hs x (by simp)
    have := ih (M := M.erase x) h2 (fun y hy => (List.mem_erase_of_ne (fun e : y = x => h1 (e ▸ hy))).2 (hs y (by simp [hy])))
    rw [List.length_erase_of_mem hx] at this
    have := List.length_pos_of_mem hx
    simp only [List.length_cons]; omega
/-- In a set of points each of which has one ahead in it there is a ring. -/
theorem ring_of_pred {l : List (Nat × Nat)} {S : Nat → Prop} {n : Nat} (hS : ∀ i, S i → i < n) (hp : ∀ i, S i → ∃ a, S a ∧ (a, i) ∈ l) {i : Nat} (hi : S i) : ∃ j, S j ∧ Path1 l j j := by
  refine Classical.byContradiction fun hno => ?_
  -- a list of points, each ahead of the next, without a point twice, however long
  have key : ∀ m : Nat, ∃ L : List Nat, L.length = m + 1 ∧ L.Nodup ∧ (∀ x ∈ L, S x) ∧ ∀ x t, L = x :: t → ∀ y ∈ t, Path1 l x y := by
    intro m
    induction m with
    | zero => exact ⟨[i], rfl, by simp, by simpa using hi, fun x t e y hy => by simp at e; rw [e.2] at hy; cases hy⟩
    | succ m ih =>
      obtain ⟨L, h1, h2, h3, h4⟩ := ih
      cases L with
      | nil => cases h1
      | cons x t =>
        obtain ⟨a, ha, hax⟩ := hp x (h3 x (by simp))
        have hall : ∀ y ∈ x :: t, Path1 l a y := fun y hy => by
          rcases List.mem_cons.1 hy with rfl | hy
          · exact ⟨_, hax, .refl⟩
          · exact ⟨_, hax, (h4 x t rfl y hy).path⟩
        refine ⟨a :: x :: t, by simpa using h1, List.nodup_cons.2 ⟨fun h => hno ⟨a, ha, hall a h⟩, h2⟩, fun y hy => ?_, fun x' t' e y hy => ?_⟩
        · rcases List.mem_cons.1 hy with rfl | hy
          · exact ha
          · exact h3 y hy
        · cases e; exact hall y hy
  obtain ⟨L, h1, h2, h3, _⟩ := key n
  have hsub : L ⊆ List.range n := fun x hx => by simpa using hS x (h3 x hx)
  have := pig h2 hsub
  simp at this; omega
theorem topoGo_spec {n : Nat} {l : List (Nat × Nat)} (hn : n ≤ 64) (hg : Good n l) : ∀ (m left : Nat) (acc : List Nat), acc.length + m = n → TI n l left acc →
    (∀ o, topoGo (outS n l) m left acc = some o → TI n l 0 o ∧ acc <+: o) ∧ (topoGo (outS n l) m left acc = none → ∃ i, i < n ∧ Path1 l i i) := by
  have z : ∀ left acc, acc.length = n → TI n l left acc → left = 0 := by
    intro left acc hl h
    apply Nat.eq_of_testBit_eq
    intro i
    rw [Nat.zero_testBit, ← Bool.not_eq_true]
    intro hi
    have hni : i ∉ acc := fun h' => by have := (h.out i h').2; rw [hi] at this; cases this
    have hsub : i :: acc ⊆ List.range n := fun x hx => by
      rcases List.mem_cons.1 hx with rfl | hx
      · simpa using h.lt x hi
      · simpa using (h.out x hx).1
    have := pig (List.nodup_cons.2 ⟨hni, h.nodup⟩) hsub
    simp at this; omega
  intro m
  induction m with
  | zero =>
    intro left acc hl h
    obtain rfl := z left acc (by omega) h
    exact ⟨fun o ho => (by cases ho; exact ⟨h, List.prefix_rfl⟩), fun h' => (by cases h')⟩
  | succ m ih =>
    intro left acc hl h
    unfold topoGo
    by_cases h0 : left = 0
    · subst h0
      rw [if_pos rfl]
      exact ⟨fun o ho => (by cases ho; exact ⟨h, List.prefix_rfl⟩), fun h' => (by cases h')⟩
    · rw [if_neg h0]
      by_cases hf : pts (freeS (outS n l) left) = []
      · rw [if_pos hf]
        refine ⟨fun o ho => (by cases ho), fun _ => ?_⟩
        obtain ⟨i, hi⟩ : ∃ i, left.testBit i = true := Classical.byContradiction fun hno => h0 (Nat.eq_of_testBit_eq fun i => by rw [Nat.zero_testBit, ← Bool.not_eq_true]; exact fun hi => hno ⟨i, hi⟩)
        obtain ⟨j, h1, h2⟩ := ring_of_pred (l := l) (S := fun i => left.testBit i = true) h.lt (fun i hi => Classical.byContradiction fun hno => by
          have : i ∈ pts (freeS (outS n l) left) := (pts_mem _ _).2 ⟨by have := h.lt i hi; omega, (free_bit hn h.lt i).2 ⟨hi, fun a ha hm => hno ⟨a, ha, hm⟩⟩⟩
          rw [hf] at this; cases this) hi
        exact ⟨j, h.lt j h1, h2⟩
      · rw [if_neg hf]
        obtain ⟨h1, h2⟩ := ih _ (acc ++ [low (freeS (outS n l) left)]) (by simp; omega) (h.next hn hg ((pts_mem _ _).1 (low_mem hf)).2)
        exact ⟨fun o ho => ⟨(h1 o ho).1, (List.prefix_append _ _).trans (h1 o ho).2⟩, h2⟩
theorem topo_some {n : Nat} {l : List (Nat × Nat)} (hn : n ≤ 64) (hg : Good n l) {o : List Nat} (h : topoO n l = some o) : TI n l 0 o := ((topoGo_spec hn hg n _ [] (by simp) (.start n l)).1 o h).1
section
variable {n : Nat} {l : List (Nat × Nat)} {o : List Nat}
theorem TI.mem (h : TI n l 0 o) {i : Nat} : i ∈ o ↔ i < n := ⟨fun hi => (h.out i hi).1, fun hi => (h.all i hi).resolve_left (by simp)⟩
theorem TI.len (h : TI n l 0 o) : o.length = n := by
  have h1 := pig h.nodup (fun x hx => by simpa using h.mem.1 hx : ∀ x ∈ o, x ∈ List.range n)
  have h2 := pig List.nodup_range (fun x hx => h.mem.2 (by simpa using hx) : ∀ x ∈ List.range n, x ∈ o)
  simp at h1 h2; omega
/-- Each line goes on in the order. -/
theorem TI.idx (h : TI n l 0 o) (hg : Good n l) {a b : Nat} (hab : (a, b) ∈ l) : o.idxOf a < o.idxOf b := by
  have hb : b ∈ o := h.mem.2 (hg _ hab).2
  obtain ⟨s, t, e, hbs⟩ := List.append_of_mem hb |> fun ⟨s, t, e⟩ => (⟨s, t, e, by
    have := h.nodup; rw [e, List.nodup_append] at this
    exact fun hs => this.2.2 b hs b (by simp) rfl⟩ : ∃ s t, o = s ++ b :: t ∧ b ∉ s)
  have ha := h.fwd a b hab s t e
  rw [e, List.idxOf_append, List.idxOf_append, if_pos ha, if_neg hbs]
  have := List.idxOf_lt_length_of_mem ha
  omega
theorem TI.path (h : TI n l 0 o) (hg : Good n l) {a b : Nat} (hab : Path1 l a b) : o.idxOf a < o.idxOf b := by
  obtain ⟨c, h1, h2⟩ := hab
  have := h.idx hg h1
  have : ∀ x, Path l c x → o.idxOf c ≤ o.idxOf x := fun x hx => by
    induction hx with
    | refl => exact Nat.le_refl _
    | step _ h3 ih => have := h.idx hg h3; omega
  have := this b h2; omega
end
end Go.Proofs

namespace Go.Proofs
open Go.Aw
def isRoot (P : List Nat) (i : Nat) : Bool := decide (P.getD i default = i)
def rank (P : List Nat) (k : Nat) : Nat := (List.range k).countP (isRoot P)
/-- Parts numbered by their least points. -/
def numI (P : List Nat) (s : List Nat × Nat) (i : Nat) : List Nat × Nat := if isRoot P i then (s.1.set i s.2, s.2 + 1) else s
def numS (n : Nat) (P : List Nat) (k : Nat) : List Nat × Nat := (List.range k).foldl (numI P) (List.replicate n 0, 0)
/-- Of each point which part it is of. -/
def fOutP (n : Nat) (P : List Nat) (k : Nat) : List Nat := (List.range k).map fun i => (numS n P n).1.getD (P.getD i default) default
def fOut (n : Nat) (l : List (Nat × Nat)) : List Nat := fOutP n (strongP n l) n
def fMany (n : Nat) (l : List (Nat × Nat)) : Nat := (numS n (strongP n l) n).2
def crossL (out : List Nat) (l : List (Nat × Nat)) : List (Nat × Nat) := (l.map fun p => (out.getD p.1 default, out.getD p.2 default)).filter fun p => decide (p.1 ≠ p.2)
def fNext (n : Nat) (l : List (Nat × Nat)) : List Nat := outS (fMany n l) (crossL (fOut n l) l)
def linesK (next : List Nat) (k : Nat) : List (Nat × Nat) := (List.range k).flatMap fun a => (pts (next.getD a default)).map fun b => (a, b)
def fLines (n : Nat) (l : List (Nat × Nat)) : List (Nat × Nat) := linesK (fNext n l) (fMany n l)
section
variable {n : Nat} {l : List (Nat × Nat)} (hn : n ≤ 64) (hg : Good n l)
include hn hg
end
end Go.Proofs

namespace Go.Proofs
open Go.Aw
/-- The fewest lines. -/
def fewB (n : Nat) (l : List (Nat × Nat)) (i : Nat) : Nat := dif ((war n l).getD i default) (orL (war n l) (pts ((war n l).getD i default)))
def few (n : Nat) (l : List (Nat × Nat)) : List (Nat × Nat) := (List.range n).flatMap fun i => (pts (fewB n l i)).map fun j => (i, j)
section
variable {n : Nat} {l : List (Nat × Nat)} (hn : n ≤ 64) (hg : Good n l)
include hn hg
theorem war_lt : ∀ x ∈ war n l, x < 2 ^ 64 := by
  intro x hx
  obtain ⟨i, hi, rfl⟩ := List.mem_iff_getElem.1 hx
  apply Nat.lt_pow_two_of_testBit
  intro j hj
  rw [← Bool.not_eq_true]
  intro h
  have h2 : ((war n l).getD i default).testBit j = true := by rw [List.getD_eq_getElem?_getD, List.getElem?_eq_getElem hi]; exact h
  rw [war_bit hg] at h2
  have := (h2.lt hg).2; omega
end
end Go.Proofs

namespace Go.Proofs
open Go.Aw
section
variable {n : Nat} {l : List (Nat × Nat)} (hn : n ≤ 64) (hg : Good n l)
include hn hg
end
end Go.Proofs

namespace Go.Proofs
open Go.Aw
def deepJ (i : Nat) (s : List Nat) (j : Nat) : List Nat := s.set j (max (s.getD j default) (s.getD i default + 1))
def deepI (next : List Nat) (s : List Nat) (i : Nat) : List Nat := (pts (next.getD i default)).foldl (deepJ i) s
def deepS (n : Nat) (l : List (Nat × Nat)) (o : List Nat) : List Nat := o.foldl (deepI (outS n l)) (List.replicate n 0)
/-- How deep each point is. -/
def IsDeep (l : List (Nat × Nat)) (d : Nat → Nat) : Prop := (∀ a b, (a, b) ∈ l → d a + 1 ≤ d b) ∧ ∀ b, d b = 0 ∨ ∃ a, (a, b) ∈ l ∧ d b = d a + 1
/-- Ways of so many lines. -/
inductive PathN (l : List (Nat × Nat)) (a : Nat) : Nat → Nat → Prop
  | refl : PathN l a 0 a
  | step {k b c : Nat} (h : PathN l a k b) (h1 : (b, c) ∈ l) : PathN l a (k + 1) c
theorem PathN.le {l : List (Nat × Nat)} {d : Nat → Nat} (hd : IsDeep l d) {a k b : Nat} (h : PathN l a k b) : d a + k ≤ d b := by
  induction h with
  | refl => exact Nat.le_refl _
  | step _ h1 ih => have := hd.1 _ _ h1; omega
theorem IsDeep.way {l : List (Nat × Nat)} {d : Nat → Nat} (hd : IsDeep l d) : ∀ (k b : Nat), d b = k → ∃ a, PathN l a k b := by
  intro k
  induction k with
  | zero => intro b _; exact ⟨b, .refl⟩
  | succ k ih =>
    intro b hb
    rcases hd.2 b with h | ⟨a, h1, h2⟩
    · omega
    · obtain ⟨c, hc⟩ := ih a (by omega)
      exact ⟨c, .step hc h1⟩
theorem PathN.cons {l : List (Nat × Nat)} {a b c k : Nat} (h1 : (a, b) ∈ l) (h : PathN l b k c) : PathN l a (k + 1) c := by
  induction h with
  | refl => exact .step .refl h1
  | step _ h2 ih => exact .step ih h2
theorem PathN.flip {l : List (Nat × Nat)} {a k b : Nat} (h : PathN l a k b) : PathN (l.map Go.Proofs.flip) b k a := by
  induction h with
  | refl => exact .refl
  | step _ h1 ih => exact .cons (flip_mem.2 h1) ih
theorem PathN.mono {l l' : List (Nat × Nat)} (hl : ∀ p ∈ l, p ∈ l') {a k b : Nat} (h : PathN l a k b) : PathN l' a k b := by
  induction h with
  | refl => exact .refl
  | step _ h1 ih => exact .step ih (hl _ h1)
theorem PathN.start {n : Nat} {l : List (Nat × Nat)} (hg : Good n l) {a k b : Nat} (h : PathN l a k b) (hb : b < n) : a < n := by
  induction h with
  | refl => exact hb
  | step _ h1 ih => exact ih (hg _ h1).1
theorem PathN.ends {n : Nat} {l : List (Nat × Nat)} (hg : Good n l) {a k b : Nat} (h : PathN l a (k + 1) b) : a < n ∧ b < n := by
  cases h with
  | step h h1 => exact ⟨h.start hg (hg _ h1).1, (hg _ h1).2⟩
/-- One round. -/
theorem deepJs_get (i : Nat) (L : List Nat) (s : List Nat) (hi : i ∉ L) (hL : L.Nodup) (hlt : ∀ x ∈ L, x < s.length) :
    (L.foldl (deepJ i) s).length = s.length ∧ ∀ j, (L.foldl (deepJ i) s).getD j default = if j ∈ L then max (s.getD j default) (s.getD i default + 1) else s.getD j default := by
  induction L generalizing s with
  | nil => simp
  | cons x L ih =>
    obtain ⟨h1, h2⟩ := List.nodup_cons.1 hL
    have hxi : x ≠ i := fun e => hi (by simp [e])
    obtain ⟨h3, h4⟩ := ih (deepJ i s x) (fun h => hi (by simp [h])) h2 (fun y hy => by simpa [deepJ] using hlt y (by simp [hy]))
    have hg : ∀ j, (deepJ i s x).getD j default = if x = j ∧ j < s.length then max (s.getD x default) (s.getD i default + 1) else s.getD j default := fun j => by rw [deepJ, set_getD]
    rw [List.foldl_cons]
    refine ⟨by rw [h3]; simp [deepJ], fun j => ?_⟩
    rw [h4, hg j, hg i, if_neg (fun h : x = i ∧ _ => hxi h.1)]
    by_cases hj : j ∈ L
    · have hjx : ¬ x = j := fun e => h1 (e ▸ hj)
      rw [if_pos hj, if_neg (fun h => hjx h.1), if_pos (by simp [hj])]
    · rw [if_neg hj]
      by_cases hjx : x = j
      · subst hjx
        rw [if_pos ⟨rfl, hlt x (by simp)⟩, if_pos (by simp)]
      · rw [if_neg (fun h => hjx h.1), if_neg (by simp [hj]; exact fun e => hjx e.symm)]
theorem pts_nodup (s : Nat) : (pts s).Nodup := List.Pairwise.filter _ List.nodup_range
theorem mem_next {n : Nat} {l : List (Nat × Nat)} (hn : n ≤ 64) (hg : Good n l) {i j : Nat} : j ∈ pts ((outS n l).getD i default) ↔ (i, j) ∈ l := by
  rw [pts_mem, outS_bit]
  exact ⟨fun h => h.2.2, fun h => ⟨by have := (hg _ h).2; omega, (hg _ h).1, h⟩⟩
structure DI (n : Nat) (l : List (Nat × Nat)) (pre : List Nat) (s : List Nat) : Prop where
  len : s.length = n
  ge : ∀ i ∈ pre, ∀ j, (i, j) ∈ l → s.getD i default + 1 ≤ s.getD j default
  eq : ∀ j, s.getD j default = 0 ∨ ∃ i ∈ pre, (i, j) ∈ l ∧ s.getD j default = s.getD i default + 1
theorem DI.next {n : Nat} {l : List (Nat × Nat)} (hn : n ≤ 64) (hg : Good n l) {o pre t s : List Nat} {i : Nat} (ho : TI n l 0 o) (e : o = pre ++ i :: t) (h : DI n l pre s) : DI n l (pre ++ [i]) (deepI (outS n l) s i) := by
  have hnd := ho.nodup
  rw [e, List.nodup_append] at hnd
  have hin : ∀ x, (i, x) ∈ l → x ∉ pre ∧ x ≠ i := by
    intro x hx
    constructor
    · intro hp
      obtain ⟨s1, t1, e1⟩ := List.append_of_mem hp
      have := ho.fwd i x hx s1 (t1 ++ i :: t) (by rw [e, e1]; simp)
      exact hnd.2.2 i (by rw [e1]; simp [this]) i (by simp) rfl
    · intro e'
      have := ho.idx hg hx
      rw [e'] at this; omega
  obtain ⟨h1, h2⟩ := deepJs_get i (pts ((outS n l).getD i default)) s (fun h' => (hin i ((mem_next hn hg).1 h')).2 rfl) (pts_nodup _) (fun x hx => by rw [h.len]; exact (hg _ ((mem_next hn hg).1 hx)).2)
  have h3 : ∀ j, (deepI (outS n l) s i).getD j default = if (i, j) ∈ l then max (s.getD j default) (s.getD i default + 1) else s.getD j default := fun j => by
    rw [deepI, h2]
    by_cases hj : (i, j) ∈ l
    · rw [if_pos hj, if_pos ((mem_next hn hg).2 hj)]
    · rw [if_neg hj, if_neg (fun h => hj ((mem_next hn hg).1 h))]
  have hpre : ∀ x, (x ∈ pre ∨ x = i) → (deepI (outS n l) s i).getD x default = s.getD x default := by
    intro x hx
    rw [h3, if_neg]
    intro h'
    rcases hx with hx | hx
    · exact (hin x h').1 hx
    · exact (hin x h').2 hx
  refine ⟨by rw [deepI, h1, h.len], fun x hx j hj => ?_, fun j => ?_⟩
  · rw [hpre x (by simpa using hx), h3]
    rcases List.mem_append.1 hx with hx | hx
    · have := h.ge x hx j hj
      split <;> omega
    · obtain rfl := List.mem_singleton.1 hx
      rw [if_pos hj]; omega
  · rw [h3]
    split
    · rename_i hj
      rcases Nat.le_total (s.getD j default) (s.getD i default + 1) with hle | hle
      · exact .inr ⟨i, by simp, hj, by rw [hpre i (.inr rfl)]; omega⟩
      · rw [Nat.max_eq_left hle]
        rcases h.eq j with h4 | ⟨x, hx, h4, h5⟩
        · omega
        · exact .inr ⟨x, by simp [hx], h4, by rw [hpre x (.inl hx)]; exact h5⟩
    · rcases h.eq j with h4 | ⟨x, hx, h4, h5⟩
      · exact .inl h4
      · exact .inr ⟨x, by simp [hx], h4, by rw [hpre x (.inl hx)]; exact h5⟩
theorem deepS_len {n : Nat} {l : List (Nat × Nat)} {o : List Nat} (hn : n ≤ 64) (hg : Good n l) (ho : TI n l 0 o) (k : Nat) (hk : k ≤ o.length) : DI n l (o.take k) ((o.take k).foldl (deepI (outS n l)) (List.replicate n 0)) := by
  induction k with
  | zero =>
    refine ⟨by simp, fun i hi => by simp at hi, fun j => .inl ?_⟩
    simp only [List.take_zero, List.foldl_nil]
    rw [List.getD_eq_getElem?_getD, List.getElem?_replicate]
    split <;> rfl
  | succ k ih =>
    have h := ih (by omega)
    rw [take_succ_getD (by omega), List.foldl_append]
    refine h.next hn hg ho (t := o.drop (k + 1)) ?_
    rw [List.getD_eq_getElem?_getD, List.getElem?_eq_getElem (by omega), Option.getD_some, List.getElem_cons_drop, List.take_append_drop]
theorem deep_spec {n : Nat} {l : List (Nat × Nat)} {o : List Nat} (hn : n ≤ 64) (hg : Good n l) (ho : TI n l 0 o) : (deepS n l o).length = n ∧ IsDeep l fun j => (deepS n l o).getD j default := by
  have h := deepS_len hn hg ho o.length (Nat.le_refl _)
  rw [List.take_length] at h
  refine ⟨h.len, fun a b hab => h.ge a (ho.mem.2 (hg _ hab).1) b hab, fun b => ?_⟩
  rcases h.eq b with h1 | ⟨i, _, h1, h2⟩
  · exact .inl h1
  · exact .inr ⟨i, h1, h2⟩
/-- No way is longer than there are points. -/
theorem deep_lt {n : Nat} {l : List (Nat × Nat)} {o : List Nat} {d : Nat → Nat} (hg : Good n l) (ho : TI n l 0 o) (hd : IsDeep l d) {b : Nat} (hb : b < n) : d b < n := by
  obtain ⟨a, ha⟩ := hd.way _ b rfl
  have : ∀ k c, PathN l a k c → 0 < k → o.idxOf a + k ≤ o.idxOf c := by
    intro k c h
    induction h with
    | refl => intro h; omega
    | step h h1 ih =>
      intro _
      have := ho.idx hg h1
      cases h with
      | refl => omega
      | step => have := ih (by omega); omega
  rcases Nat.eq_zero_or_pos (d b) with h0 | h0
  · omega
  · have h1 := this _ _ ha h0
    have h2 := List.idxOf_lt_length_of_mem (ho.mem.2 hb)
    rw [ho.len] at h2
    omega
end Go.Proofs

namespace Go.Proofs
open Go.Aw
/-- The place of the least number that is not used. -/
def riseB (l : List Int) (used : List Bool) (b : Int) (i : Nat) : Int := if used.getD i default = false ∧ (b < 0 ∨ l.getD i default < l.getD b.toNat default) then (i : Int) else b
def riseM (l : List Int) (used : List Bool) : Int := (List.range l.length).foldl (riseB l used) (-1)
def riseS (l : List Int) (s : List Bool × List Int) : List Bool × List Int := (s.1.set (riseM l s.1).toNat true, s.2 ++ [l.getD (riseM l s.1).toNat default])
def riseK (l : List Int) : Nat → List Bool × List Int
  | 0 => (List.replicate l.length false, [])
  | k + 1 => riseS l (riseK l k)
def rising (l : List Int) : List Int := (riseK l l.length).2
theorem riseB_spec (l : List Int) (used : List Bool) : ∀ k, (k ≤ l.length) →
    ((List.range k).foldl (riseB l used) (-1) = -1 ∧ ∀ i, i < k → used.getD i default = true) ∨
    ∃ x : Nat, (List.range k).foldl (riseB l used) (-1) = (x : Int) ∧ x < k ∧ used.getD x default = false ∧ ∀ i, i < k → used.getD i default = false → l.getD x default ≤ l.getD i default := by
  intro k
  induction k with
  | zero => intro _; exact .inl ⟨rfl, fun i h => by omega⟩
  | succ k ih =>
    intro hk
    rw [List.range_succ, List.foldl_append, List.foldl_cons, List.foldl_nil]
    rcases ih (by omega) with ⟨h1, h2⟩ | ⟨x, h1, h2, h3, h4⟩
    · rw [h1]
      unfold riseB
      by_cases hu : used.getD k default = false
      · rw [if_pos ⟨hu, .inl (by decide)⟩]
        refine .inr ⟨k, rfl, by omega, hu, fun i hi hui => ?_⟩
        rcases Nat.lt_or_ge i k with h | h
        · rw [h2 i h] at hui; cases hui
        · have : i = k := by omega
          rw [this]; exact Int.le_refl _
      · rw [if_neg (fun h => hu h.1)]
        refine .inl ⟨rfl, fun i hi => ?_⟩
        rcases Nat.lt_or_ge i k with h | h
        · exact h2 i h
        · have : i = k := by omega
          rw [this]; simpa using hu
    · rw [h1]
      unfold riseB
      rw [Int.toNat_natCast]
      by_cases hc : used.getD k default = false ∧ ((x : Int) < 0 ∨ l.getD k default < l.getD x default)
      · rw [if_pos hc]
        have hlt := hc.2.resolve_left (by omega)
        refine .inr ⟨k, rfl, by omega, hc.1, fun i hi hui => ?_⟩
        rcases Nat.lt_or_ge i k with h | h
        · have := h4 i h hui; omega
        · have : i = k := by omega
          rw [this]; exact Int.le_refl _
      · rw [if_neg hc]
        refine .inr ⟨x, rfl, by omega, h3, fun i hi hui => ?_⟩
        rcases Nat.lt_or_ge i k with h | h
        · exact h4 i h hui
        · have : i = k := by omega
          subst this
          rcases Int.lt_or_le (l.getD i default) (l.getD x default) with h' | h'
          · exact absurd ⟨hui, .inr h'⟩ hc
          · exact h'
structure RsI (l : List Int) (k : Nat) (s : List Bool × List Int) (ps : List Nat) : Prop where
  len : s.1.length = l.length
  ps_len : ps.length = k
  nodup : ps.Nodup
  lt : ∀ p ∈ ps, p < l.length
  used : ∀ i, i < l.length → (s.1.getD i default = true ↔ i ∈ ps)
  out : s.2 = ps.map fun p => l.getD p default
  sorted : s.2.Pairwise (· ≤ ·)
  least : ∀ x ∈ s.2, ∀ i, i < l.length → i ∉ ps → x ≤ l.getD i default
theorem RsI.step {l : List Int} {k : Nat} {s : List Bool × List Int} {ps : List Nat} (h : RsI l k s ps) (hk : k < l.length) : ∃ x : Nat, riseM l s.1 = (x : Int) ∧ x < l.length ∧ RsI l (k + 1) (riseS l s) (ps ++ [x]) := by
  rcases riseB_spec l s.1 l.length (Nat.le_refl _) with ⟨_, h2⟩ | ⟨x, h1, h2, h3, h4⟩
  · exfalso
    have := pig (L := List.range l.length) (M := ps) List.nodup_range (fun i hi => (h.used i (by simpa using hi)).1 (h2 i (by simpa using hi)))
    rw [List.length_range, h.ps_len] at this
    omega
  · have h1' : riseM l s.1 = (x : Int) := h1
    have hx : x ∉ ps := fun hm => by
      rw [(h.used x h2).2 hm] at h3; cases h3
    refine ⟨x, h1', h2, ?_⟩
    unfold riseS
    rw [h1', Int.toNat_natCast]
    refine ⟨by simp [h.len], by simp [h.ps_len], ?_, ?_, fun i hi => ?_, by simp [h.out], ?_, ?_⟩
    · rw [List.nodup_append]
      exact ⟨h.nodup, by simp, fun a ha b hb e => by
        rw [List.mem_singleton.1 hb] at e
        exact hx (e ▸ ha)⟩
    · intro p hp
      rcases List.mem_append.1 hp with hp | hp
      · exact h.lt p hp
      · rw [List.mem_singleton.1 hp]; exact h2
    · rw [set_getD, h.len, List.mem_append, List.mem_singleton]
      by_cases hxi : x = i
      · subst hxi; simp [h2]
      · rw [if_neg (fun hh => hxi hh.1), h.used i hi]
        exact ⟨.inl, fun hh => hh.resolve_right fun e => hxi e.symm⟩
    · rw [List.pairwise_append]
      refine ⟨h.sorted, by simp, fun a ha b hb => ?_⟩
      rw [List.mem_singleton.1 hb]
      exact h.least a ha x h2 hx
    · intro y hy i hi hni
      have hni' : i ∉ ps := fun hm => hni (by simp [hm])
      rcases List.mem_append.1 hy with hy | hy
      · exact h.least y hy i hi hni'
      · rw [List.mem_singleton.1 hy]
        refine h4 i hi ?_
        cases hu : s.1.getD i default with
        | false => rfl
        | true => exact absurd ((h.used i hi).1 hu) hni'
end Go.Proofs

namespace Go.Proofs
open Go.Aw
set_option linter.unusedVariables false
def far0 (L : List (Int × Int)) (either : Bool) (over : Int) (a b : Nat) : Int :=
  if a = b then 0 else if ((a : Int) ≠ over ∧ (b : Int) ≠ over) ∧ (((a : Int), (b : Int)) ∈ L ∨ (either = true ∧ ((b : Int), (a : Int)) ∈ L)) then 1 else -1
def updF (F : Nat → Nat → Int) (a b : Nat) (v : Int) (i j : Nat) : Int := if i = a ∧ j = b then v else F i j
def relF (F : Nat → Nat → Int) (k a b : Nat) : Nat → Nat → Int := if 0 ≤ F a k ∧ 0 ≤ F k b ∧ (F a b < 0 ∨ F a k + F k b < F a b) then updF F a b (F a k + F k b) else F
def farB (F : Nat → Nat → Int) (k a : Nat) : Nat → Nat → Nat → Int
  | 0 => F
  | b + 1 => relF (farB F k a b) k a b
def farA (n : Nat) (F : Nat → Nat → Int) (k : Nat) : Nat → Nat → Nat → Int
  | 0 => F
  | a + 1 => farB (farA n F k a) k a n
def farK (n : Nat) (F : Nat → Nat → Int) : Nat → Nat → Nat → Int
  | 0 => F
  | k + 1 => farA n (farK n F k) k n
structure MidF (F : Nat → Nat → Int) (k : Nat) : Prop where
  all : ∀ i j, F i j ≤ 2 ^ (k + 1)
  col : ∀ i, F i k ≤ 2 ^ k
  row : ∀ j, F k j ≤ 2 ^ k
  lo : ∀ i j, -1 ≤ F i j
theorem MidF.rel {F : Nat → Nat → Int} {k : Nat} (h : MidF F k) (a b : Nat) : MidF (relF F k a b) k := by
  unfold relF
  by_cases hc : 0 ≤ F a k ∧ 0 ≤ F k b ∧ (F a b < 0 ∨ F a k + F k b < F a b)
  · rw [if_pos hc]
    obtain ⟨h1, h2, h3⟩ := hc
    have hb : b ≠ k := fun e => by subst e; omega
    have ha : a ≠ k := fun e => by subst e; omega
    have e2 : (2 : Int) ^ (k + 1) = 2 ^ k + 2 ^ k := by rw [Int.pow_succ]; omega
    have c1 := h.col a
    have c2 := h.row b
    refine ⟨fun i j => ?_, fun i => ?_, fun j => ?_, fun i j => ?_⟩ <;> unfold updF
    · split
      · omega
      · exact h.all i j
    · rw [if_neg (fun e => hb e.2.symm)]; exact h.col i
    · rw [if_neg (fun e => ha e.1.symm)]; exact h.row j
    · split
      · omega
      · exact h.lo i j
  · rw [if_neg hc]; exact h
theorem MidF.b {F : Nat → Nat → Int} {k : Nat} (h : MidF F k) (a : Nat) : ∀ b, MidF (farB F k a b) k := by
  intro b
  induction b with
  | zero => exact h
  | succ b ih => exact ih.rel a b
theorem MidF.a {F : Nat → Nat → Int} {n k : Nat} (h : MidF F k) : ∀ a, MidF (farA n F k a) k := by
  intro a
  induction a with
  | zero => exact h
  | succ a ih => exact ih.b a n
theorem farK_le {F : Nat → Nat → Int} (n : Nat) (h : ∀ i j, -1 ≤ F i j ∧ F i j ≤ 1) : ∀ k, ∀ i j, -1 ≤ farK n F k i j ∧ farK n F k i j ≤ 2 ^ k := by
  intro k
  induction k with
  | zero => intro i j; exact h i j
  | succ k ih =>
    have hp : (0 : Int) ≤ 2 ^ k := Int.pow_nonneg (by decide)
    have e2 : (2 : Int) ^ (k + 1) = 2 ^ k + 2 ^ k := by rw [Int.pow_succ]; omega
    have hm : MidF (farK n F k) k := ⟨fun i j => by have := (ih i j).2; omega, fun i => (ih i k).2, fun j => (ih k j).2, fun i j => (ih i j).1⟩
    intro i j
    exact ⟨(hm.a (n := n) n).lo i j, (hm.a (n := n) n).all i j⟩
theorem farK_mid {F : Nat → Nat → Int} (n : Nat) (h : ∀ i j, -1 ≤ F i j ∧ F i j ≤ 1) (k : Nat) : MidF (farK n F k) k := by
  have ih := farK_le n h k
  have hp : (0 : Int) ≤ 2 ^ k := Int.pow_nonneg (by decide)
  have e2 : (2 : Int) ^ (k + 1) = 2 ^ k + 2 ^ k := by rw [Int.pow_succ]; omega
  exact ⟨fun i j => by have := (ih i j).2; omega, fun i => (ih i k).2, fun j => (ih k j).2, fun i j => (ih i j).1⟩
theorem far0_b (L : List (Int × Int)) (either : Bool) (over : Int) (a b : Nat) : -1 ≤ far0 L either over a b ∧ far0 L either over a b ≤ 1 := by
  unfold far0
  split
  · omega
  · split <;> omega
/-- The greatest value that stands in a phase, for so few points. -/
theorem mid_small {F : Nat → Nat → Int} {k n : Nat} (h : MidF F k) (hk : k < n) (hn : n ≤ 40) (i j : Nat) : F i j ≤ 2 ^ 40 := by
  have h1 := h.all i j
  have h2 : (2 : Int) ^ (k + 1) ≤ 2 ^ 40 := by
    have := Nat.pow_le_pow_right (n := 2) (by omega) (show k + 1 ≤ 40 by omega)
    exact_mod_cast this
  omega
end Go.Proofs

namespace Go.Proofs
open Go.Aw
theorem relF_sign (F : Nat → Nat → Int) (k a b i j : Nat) : 0 ≤ relF F k a b i j ↔ 0 ≤ F i j ∨ (i = a ∧ j = b ∧ 0 ≤ F a k ∧ 0 ≤ F k b) := by
  unfold relF
  by_cases hc : 0 ≤ F a k ∧ 0 ≤ F k b ∧ (F a b < 0 ∨ F a k + F k b < F a b)
  · rw [if_pos hc]
    unfold updF
    by_cases e : i = a ∧ j = b
    · rw [if_pos e]
      exact ⟨fun _ => .inr ⟨e.1, e.2, hc.1, hc.2.1⟩, fun _ => by omega⟩
    · rw [if_neg e]
      exact ⟨.inl, fun h => h.elim id fun h => absurd ⟨h.1, h.2.1⟩ e⟩
  · rw [if_neg hc]
    refine ⟨.inl, fun h => h.elim id ?_⟩
    rintro ⟨rfl, rfl, h1, h2⟩
    omega
theorem farB_sign (F : Nat → Nat → Int) (k a : Nat) : ∀ b i j, 0 ≤ farB F k a b i j ↔ 0 ≤ F i j ∨ (i = a ∧ j < b ∧ 0 ≤ F a k ∧ 0 ≤ F k j) := by
  intro b
  induction b with
  | zero => intro i j; exact ⟨.inl, fun h => h.elim id fun h => by omega⟩
  | succ b ih =>
    intro i j
    show 0 ≤ relF (farB F k a b) k a b i j ↔ _
    rw [relF_sign, ih, ih, ih]
    constructor
    · rintro ((h | ⟨h1, h2, h3, h4⟩) | ⟨h1, h2, h3, h4⟩)
      · exact .inl h
      · exact .inr ⟨h1, by omega, h3, h4⟩
      · subst h1 h2
        exact .inr ⟨rfl, by omega, h3.elim id fun h => h.2.2.1, h4.elim id fun h => by omega⟩
    · rintro (h | ⟨h1, h2, h3, h4⟩)
      · exact .inl (.inl h)
      · rcases Nat.lt_or_ge j b with h | h
        · exact .inl (.inr ⟨h1, h, h3, h4⟩)
        · obtain rfl : j = b := by omega
          exact .inr ⟨h1, rfl, .inl h3, .inl h4⟩
theorem farA_sign (n : Nat) (F : Nat → Nat → Int) (k : Nat) : ∀ a i j, 0 ≤ farA n F k a i j ↔ 0 ≤ F i j ∨ (i < a ∧ j < n ∧ 0 ≤ F i k ∧ 0 ≤ F k j) := by
  intro a
  induction a with
  | zero => intro i j; exact ⟨.inl, fun h => h.elim id fun h => by omega⟩
  | succ a ih =>
    intro i j
    show 0 ≤ farB (farA n F k a) k a n i j ↔ _
    rw [farB_sign, ih, ih, ih]
    constructor
    · rintro ((h | ⟨h1, h2, h3, h4⟩) | ⟨h1, h2, h3, h4⟩)
      · exact .inl h
      · exact .inr ⟨by omega, h2, h3, h4⟩
      · subst h1
        exact .inr ⟨by omega, h2, h3.elim id fun h => by omega, h4.elim id fun h => h.2.2.2⟩
    · rintro (h | ⟨h1, h2, h3, h4⟩)
      · exact .inl (.inl h)
      · rcases Nat.lt_or_ge i a with h | h
        · exact .inl (.inr ⟨h, h2, h3, h4⟩)
        · obtain rfl : i = a := by omega
          exact .inr ⟨rfl, h2, .inl h3, .inl h4⟩
theorem farK_sign {n : Nat} {F : Nat → Nat → Int} {G : List (Nat × Nat)} (hF : ∀ i j, i < n → j < n → (0 ≤ F i j ↔ (i, j) ∈ G)) : ∀ k, k ≤ n → ∀ i j, i < n → j < n → (0 ≤ farK n F k i j ↔ WR G k i j) := by
  intro k
  induction k with
  | zero => intro _ i j hi hj; exact hF i j hi hj
  | succ k ih =>
    intro hk i j hi hj
    show 0 ≤ farA n (farK n F k) k n i j ↔ _
    rw [farA_sign, ih (by omega) i j hi hj, ih (by omega) i k hi (by omega), ih (by omega) k j (by omega) hj]
    show _ ↔ WR G k i j ∨ (WR G k i k ∧ WR G k k j)
    exact or_congr_right ⟨fun h => h.2.2, fun h => ⟨hi, hj, h⟩⟩
/-- Where Far is not less than nought there is a way. -/
theorem far_path {n : Nat} {l : List (Int × Int)} {L : List (Nat × Nat)} (hl : ∀ a b : Nat, (((a : Int), (b : Int)) ∈ l ↔ (a, b) ∈ L)) (hg : Good n L) {i j : Nat} (hi : i < n) (hj : j < n) : 0 ≤ farK n (far0 l false (-1)) n i j ↔ Path L i j := by
  have hgG : Good n (L ++ (List.range n).map fun i => (i, i)) := fun p hp => by
    rcases List.mem_append.1 hp with h | h
    · exact hg p h
    · obtain ⟨x, hx, rfl⟩ := List.mem_map.1 h
      exact ⟨List.mem_range.1 hx, List.mem_range.1 hx⟩
  rw [farK_sign (G := L ++ (List.range n).map fun i => (i, i)) (fun i j hi hj => ?_) n (Nat.le_refl n) i j hi hj, WR.all hgG]
  · constructor
    · rintro ⟨c, h1, h2⟩
      have key : ∀ {a b : Nat}, Path (L ++ (List.range n).map fun i => (i, i)) a b → Path L a b := by
        intro a b h
        induction h with
        | refl => exact .refl
        | step _ h1 ih =>
          rcases List.mem_append.1 h1 with h | h
          · exact .step ih h
          · obtain ⟨x, hx, e⟩ := List.mem_map.1 h
            cases e
            exact ih
      exact key ((Path.one h1).trans h2)
    · intro h
      exact ⟨i, List.mem_append_right _ (List.mem_map.2 ⟨i, List.mem_range.2 hi, rfl⟩), h.mono fun p hp => List.mem_append_left _ hp⟩
  · unfold far0
    rw [List.mem_append]
    by_cases e : i = j
    · subst e
      rw [if_pos rfl]
      exact ⟨fun _ => .inr (List.mem_map.2 ⟨i, List.mem_range.2 hi, rfl⟩), fun _ => Int.le_refl 0⟩
    · rw [if_neg e]
      by_cases hm : (i, j) ∈ L
      · rw [if_pos ⟨⟨by omega, by omega⟩, .inl ((hl i j).2 hm)⟩]
        exact ⟨fun _ => .inl hm, fun _ => by decide⟩
      · rw [if_neg (fun h => h.2.elim (fun h => hm ((hl i j).1 h)) fun h => by cases h.1)]
        refine ⟨fun h => by omega, fun h => h.elim (fun h => absurd h hm) fun h => ?_⟩
        obtain ⟨x, _, e2⟩ := List.mem_map.1 h
        cases e2
        exact absurd rfl e
/-- Ways of a line or more, by Far. -/
theorem comes_iff {n : Nat} {l : List (Int × Int)} {L : List (Nat × Nat)} (hl : ∀ a b : Nat, (((a : Int), (b : Int)) ∈ l ↔ (a, b) ∈ L)) (hg : Good n L) {i j : Nat} (hj : j < n) : ((List.range n).any fun k => decide (((i : Int), (k : Int)) ∈ l) && decide (0 ≤ farK n (far0 l false (-1)) n k j)) = true ↔ Path1 L i j := by
  rw [List.any_eq_true]
  constructor
  · rintro ⟨k, hk, h⟩
    rw [Bool.and_eq_true, decide_eq_true_eq, decide_eq_true_eq] at h
    exact ⟨k, (hl i k).1 h.1, (far_path hl hg (List.mem_range.1 hk) hj).1 h.2⟩
  · rintro ⟨k, h1, h2⟩
    have hk := (hg _ h1).2
    refine ⟨k, List.mem_range.2 hk, ?_⟩
    rw [Bool.and_eq_true, decide_eq_true_eq, decide_eq_true_eq]
    exact ⟨(hl i k).2 h1, (far_path hl hg hk hj).2 h2⟩
end Go.Proofs

namespace Go.Proofs
open Go.Aw
/-- May a point be next? -/
def freeR (l : List (Nat × Nat)) (acc : List Nat) (i : Nat) : Bool := !decide (i ∈ acc) && l.all fun p => !decide (p.2 = i) || decide (p.1 ∈ acc)
theorem freeR_iff {n : Nat} {l : List (Nat × Nat)} {left : Nat} {acc : List Nat} (hn : n ≤ 64) (hg : Good n l) (h : TI n l left acc) {i : Nat} (hi : i < n) : freeR l acc i = true ↔ (freeS (outS n l) left).testBit i = true := by
  have hbit : ∀ j, j < n → (left.testBit j = true ↔ j ∉ acc) := fun j hj => by
    constructor
    · intro h1 h2
      have := (h.out j h2).2
      rw [h1] at this; cases this
    · intro h1
      exact (h.all j hj).resolve_right h1
  rw [free_bit hn h.lt i, hbit i hi]
  unfold freeR
  rw [Bool.and_eq_true, List.all_eq_true]
  simp only [Bool.not_eq_true', decide_eq_false_iff_not, Bool.or_eq_true, decide_eq_true_eq]
  refine and_congr_right fun _ => ?_
  constructor
  · intro h1 a ha hm
    have := (h1 _ hm).resolve_left (fun e => e rfl)
    exact (hbit a (hg _ hm).1).1 ha this
  · intro h1 p hp
    by_cases e : p.2 = i
    · right
      refine Classical.byContradiction fun hna => ?_
      exact h1 p.1 ((hbit _ (hg _ hp).1).2 hna) (by rw [← e]; exact hp)
    · exact .inl e
/-- The least of which F holds, seen from the end on. -/
def bst (F : Nat → Bool) (n : Nat) : Nat → Int
  | 0 => -1
  | c + 1 => if F (n - c - 1) = true then ((n - c - 1 : Nat) : Int) else bst F n c
theorem bst_spec (F : Nat → Bool) (n : Nat) : ∀ c, c ≤ n → (bst F n c = -1 ∧ ∀ i, n - c ≤ i → i < n → F i = false) ∨ ∃ i : Nat, bst F n c = (i : Int) ∧ n - c ≤ i ∧ i < n ∧ F i = true ∧ ∀ j, n - c ≤ j → j < i → F j = false := by
  intro c
  induction c with
  | zero => intro _; exact .inl ⟨rfl, fun i h1 h2 => by omega⟩
  | succ c ih =>
    intro hc
    unfold bst
    by_cases hF : F (n - c - 1) = true
    · rw [if_pos hF]
      exact .inr ⟨n - c - 1, rfl, by omega, by omega, hF, fun j h1 h2 => by omega⟩
    · rw [if_neg hF]
      have hF : F (n - c - 1) = false := by simpa using hF
      have hj : ∀ j, n - (c + 1) ≤ j → j = n - c - 1 ∨ n - c ≤ j := fun j hj => by omega
      rcases ih (by omega) with ⟨h1, h2⟩ | ⟨i, h1, h2, h3, h4, h5⟩
      · refine .inl ⟨h1, fun i hi hn => ?_⟩
        rcases hj i hi with rfl | h
        · exact hF
        · exact h2 i h hn
      · refine .inr ⟨i, h1, by omega, h3, h4, fun j hj1 hj2 => ?_⟩
        rcases hj j hj1 with rfl | h
        · exact hF
        · exact h5 j h hj2
theorem bst_low {n : Nat} {l : List (Nat × Nat)} {left : Nat} {acc : List Nat} (hn : n ≤ 64) (hg : Good n l) (h : TI n l left acc) : bst (freeR l acc) n n = if pts (freeS (outS n l) left) = [] then -1 else ((low (freeS (outS n l) left) : Nat) : Int) := by
  have hlt : ∀ i, (freeS (outS n l) left).testBit i = true → i < n := fun i hi => h.lt i ((free_bit hn h.lt i).1 hi).1
  rcases bst_spec (freeR l acc) n n (Nat.le_refl _) with ⟨h1, h2⟩ | ⟨i, h1, h2, h3, h4, h5⟩
  · rw [h1, if_pos]
    refine List.eq_nil_iff_forall_not_mem.2 fun x hx => ?_
    have hx := ((pts_mem _ _).1 hx).2
    have := h2 x (by omega) (hlt x hx)
    rw [(freeR_iff hn hg h (hlt x hx)).2 hx] at this; cases this
  · have hb := (freeR_iff hn hg h h3).1 h4
    obtain ⟨g1, g2, g3⟩ := low_spec hb (by omega)
    rw [h1, if_neg g1]
    have hll := hlt _ g2
    have : ¬ low (freeS (outS n l) left) < i := fun hlow => by
      have := h5 _ (by omega) hlow
      rw [(freeR_iff hn hg h hll).2 g2] at this; cases this
    omega
theorem go_step {n : Nat} {l : List (Nat × Nat)} {left : Nat} {acc : List Nat} (h : TI n l left acc) (hl : acc.length < n) : topoGo (outS n l) (n - acc.length) left acc =
    if pts (freeS (outS n l) left) = [] then none else topoGo (outS n l) (n - (acc.length + 1)) (dif left (2 ^ low (freeS (outS n l) left))) (acc ++ [low (freeS (outS n l) left)]) := by
  have h0 : left ≠ 0 := fun e => by
    subst e
    have hsub : List.range n ⊆ acc := fun x hx => (h.all x (by simpa using hx)).resolve_left (by simp)
    have := pig List.nodup_range hsub
    simp at this; omega
  obtain ⟨m, hm⟩ : ∃ m, n - acc.length = m + 1 := ⟨n - acc.length - 1, by omega⟩
  rw [hm, show n - (acc.length + 1) = m by omega]
  rw [topoGo, if_neg h0]
end Go.Proofs

namespace Go.Proofs
open Go.Aw
/-- Who asks whom: free ones, how many each has asked, whom each has. -/
structure GS where
  free : List Nat
  nx : List Nat
  has : List Int
def gJ (L : List (List Nat)) (g : GS) (i : Nat) : Nat := (L.getD i default).getD (g.nx.getD i default) default
def gStep (L R : List (List Nat)) (g : GS) : GS :=
  match g.free with
  | [] => g
  | i :: rest =>
    if g.has.getD (gJ L g i) default < 0 then ⟨rest, g.nx.set i (g.nx.getD i default + 1), g.has.set (gJ L g i) i⟩
    else if (R.getD (gJ L g i) default).idxOf i < (R.getD (gJ L g i) default).idxOf (g.has.getD (gJ L g i) default).toNat then ⟨(g.has.getD (gJ L g i) default).toNat :: rest, g.nx.set i (g.nx.getD i default + 1), g.has.set (gJ L g i) i⟩
    else ⟨i :: rest, g.nx.set i (g.nx.getD i default + 1), g.has⟩
def gRun (L R : List (List Nat)) : Nat → GS → GS
  | 0, g => g
  | m + 1, g => if g.free = [] then g else gRun L R m (gStep L R g)
def gStart (n : Nat) : GS := ⟨List.range n, List.replicate n 0, List.replicate n (-1)⟩
def outG (has : List Int) : List Nat := (List.range has.length).foldl (fun o j => o.set (has.getD j default).toNat j) (List.replicate has.length 0)
def gale (n : Nat) (L R : List (List Nat)) : List Nat := outG (gRun L R (n * n) (gStart n)).has
structure Prefs (n : Nat) (L : List (List Nat)) : Prop where
  len : L.length = n
  each : ∀ x ∈ L, x.length = n ∧ x.Nodup ∧ ∀ y ∈ x, y < n
def rk (L : List (List Nat)) (i j : Nat) : Nat := (L.getD i default).idxOf j
/-- Pairs: none twice. -/
structure Pairs (n : Nat) (h : Nat → Nat) : Prop where
  lt : ∀ i, i < n → h i < n
  inj : ∀ i k, i < n → k < n → h i = h k → i = k
theorem Pairs.sur {n : Nat} {h : Nat → Nat} (hp : Pairs n h) {j : Nat} (hj : j < n) : ∃ i, i < n ∧ h i = j := by
  refine Classical.byContradiction fun hno => ?_
  have hnd : (j :: (List.range n).map h).Nodup := by
    refine List.nodup_cons.2 ⟨fun hm => ?_, ?_⟩
    · obtain ⟨i, hi, e⟩ := List.mem_map.1 hm
      exact hno ⟨i, by simpa using hi, e⟩
    · rw [List.Nodup, List.pairwise_map]
      refine (List.nodup_range (n := n)).imp_of_mem fun {a b} ha hb hne e => hne (hp.inj a b (by simpa using ha) (by simpa using hb) e)
  have := pig (M := List.range n) hnd (fun x hx => by
    rcases List.mem_cons.1 hx with rfl | hx
    · simpa using hj
    · obtain ⟨i, hi, rfl⟩ := List.mem_map.1 hx
      simpa using hp.lt i (by simpa using hi))
  simp at this; omega
/-- No two would rather have each other. -/
def Stb (n : Nat) (L R : List (List Nat)) (h : Nat → Nat) : Prop := ∀ i k, i < n → k < n → ¬ (rk L i (h k) < rk L i (h i) ∧ rk R (h k) i < rk R (h k) k)
section
variable {n : Nat} {L R : List (List Nat)}
theorem Prefs.row (h : Prefs n L) {i : Nat} (hi : i < n) : (L.getD i default).length = n ∧ (L.getD i default).Nodup ∧ ∀ y ∈ L.getD i default, y < n := h.each _ (getD_mem (by rw [h.len]; exact hi))
theorem Prefs.mem (h : Prefs n L) {i j : Nat} (hi : i < n) (hj : j < n) : j ∈ L.getD i default := by
  obtain ⟨h1, h2, h3⟩ := h.row hi
  refine Classical.byContradiction fun hno => ?_
  have := pig (M := List.range n) (List.nodup_cons.2 ⟨hno, h2⟩) (fun x hx => by
    rcases List.mem_cons.1 hx with rfl | hx
    · simpa using hj
    · simpa using h3 x hx)
  rw [List.length_cons, h1, List.length_range] at this; omega
theorem Prefs.rk_lt (h : Prefs n L) {i j : Nat} (hi : i < n) (hj : j < n) : rk L i j < n := by
  have := List.idxOf_lt_length_of_mem (h.mem hi hj)
  rw [(h.row hi).1] at this
  exact this
theorem Prefs.get_lt (h : Prefs n L) {i t : Nat} (hi : i < n) (ht : t < n) : (L.getD i default).getD t default < n := (h.row hi).2.2 _ (getD_mem (by rw [(h.row hi).1]; exact ht))
theorem Prefs.rk_get (h : Prefs n L) {i t : Nat} (hi : i < n) (ht : t < n) : rk L i ((L.getD i default).getD t default) = t := by
  obtain ⟨h1, h2, _⟩ := h.row hi
  unfold rk
  generalize L.getD i default = x at h1 h2
  have ht' : t < x.length := by omega
  rw [List.getD_eq_getElem?_getD, List.getElem?_eq_getElem ht', Option.getD_some]
  have := List.idxOf_lt_length_of_mem (List.getElem_mem ht')
  have e := List.getElem_idxOf this
  exact (List.getElem_inj (h₀ := this) (h₁ := ht') h2).1 e
theorem Prefs.get_rk (h : Prefs n L) {i j : Nat} (hi : i < n) (hj : j < n) : (L.getD i default).getD (rk L i j) default = j := by
  have hm := h.mem hi hj
  unfold rk
  generalize L.getD i default = x at hm
  have := List.idxOf_lt_length_of_mem hm
  rw [List.getD_eq_getElem?_getD, List.getElem?_eq_getElem this, Option.getD_some]
  exact List.getElem_idxOf this
theorem Prefs.rk_inj (h : Prefs n L) {i j k : Nat} (hi : i < n) (hj : j < n) (hk : k < n) (e : rk L i j = rk L i k) : j = k := by
  rw [← h.get_rk hi hj, ← h.get_rk hi hk, e]
/-- What holds in each round. -/
structure GI (n : Nat) (L R : List (List Nat)) (g : GS) : Prop where
  ln : g.nx.length = n
  lh : g.has.length = n
  freeLt : ∀ i ∈ g.free, i < n
  nodup : g.free.Nodup
  hasR : ∀ j, j < n → g.has.getD j default = -1 ∨ ∃ i, i < n ∧ g.has.getD j default = (i : Int) ∧ i ∉ g.free ∧ 0 < g.nx.getD i default ∧ (L.getD i default).getD (g.nx.getD i default - 1) default = j
  cov : ∀ i, i < n → i ∈ g.free ∨ ∃ j, j < n ∧ g.has.getD j default = (i : Int)
  nxle : ∀ i, i < n → g.nx.getD i default ≤ n
  prop : ∀ i, i < n → ∀ t, t < g.nx.getD i default → ∃ k, k < n ∧ g.has.getD ((L.getD i default).getD t default) default = (k : Int) ∧ rk R ((L.getD i default).getD t default) k ≤ rk R ((L.getD i default).getD t default) i
  imp : ∀ i, i < n → ∀ t, t < g.nx.getD i default → g.has.getD ((L.getD i default).getD t default) default ≠ (i : Int) → ∀ h, Pairs n h → Stb n L R h → h i ≠ (L.getD i default).getD t default
theorem GI.inj {g : GS} (h : GI n L R g) {j k i : Nat} (hj : j < n) (hk : k < n) (h1 : g.has.getD j default = (i : Int)) (h2 : g.has.getD k default = (i : Int)) : j = k := by
  rcases h.hasR j hj with h3 | ⟨a, _, h3, _, _, h4⟩
  · omega
  · rcases h.hasR k hk with h5 | ⟨b, _, h5, _, _, h6⟩
    · omega
    · have ea : a = i := by omega
      have eb : b = i := by omega
      subst ea
      subst eb
      rw [← h4, ← h6]
/-- Who is free has not asked all. -/
theorem GI.nx_lt {g : GS} (hL : Prefs n L) (h : GI n L R g) {i : Nat} (hi : i ∈ g.free) : g.nx.getD i default < n := by
  have hin := h.freeLt i hi
  have h1 := h.nxle i hin
  refine Classical.byContradiction fun hno => ?_
  have e : g.nx.getD i default = n := by omega
  -- all have someone
  have hall : ∀ j, j < n → ∃ k, k < n ∧ g.has.getD j default = (k : Int) := by
    intro j hj
    obtain ⟨k, hk, h2, _⟩ := h.prop i hin (rk L i j) (by rw [e]; exact hL.rk_lt hin hj)
    rw [hL.get_rk hin hj] at h2
    exact ⟨k, hk, h2⟩
  have hp : Pairs n fun j => (g.has.getD j default).toNat := by
    refine ⟨fun j hj => ?_, fun j k hj hk e' => ?_⟩
    · obtain ⟨k, hk, h2⟩ := hall j hj
      show (g.has.getD j default).toNat < n
      rw [h2]; exact hk
    · obtain ⟨a, _, ha⟩ := hall j hj
      obtain ⟨b, _, hb⟩ := hall k hk
      simp only [ha, hb, Int.toNat_natCast] at e'
      subst e'
      exact h.inj hj hk ha hb
  obtain ⟨j, hj, e'⟩ := hp.sur hin
  obtain ⟨a, _, ha⟩ := hall j hj
  simp only [ha, Int.toNat_natCast] at e'
  subst e'
  rcases h.hasR j hj with h3 | ⟨b, _, h3, h4, _⟩
  · omega
  · have : b = a := by omega
    subst this
    exact h4 hi
theorem getD_set {α : Type} [Inhabited α] (s : List α) (i j : Nat) (x : α) (hi : i < s.length) : (s.set i x).getD j default = if j = i then x else s.getD j default := by
  rw [set_getD]
  by_cases h : i = j
  · subst h; simp [hi]
  · rw [if_neg (fun h' => h h'.1), if_neg (fun e => h e.symm)]
/-- One who asks, and is kept by whom he asks; the other one, if there is one, is free. -/
theorem GI.take {g : GS} {i : Nat} {rest : List Nat} (hL : Prefs n L) (hR : Prefs n R) (h : GI n L R g) (hf : g.free = i :: rest) (f' : List Nat)
    (hw : (g.has.getD (gJ L g i) default = -1 ∧ f' = rest) ∨ ∃ w, w < n ∧ g.has.getD (gJ L g i) default = (w : Int) ∧ rk R (gJ L g i) i < rk R (gJ L g i) w ∧ f' = w :: rest) :
    GI n L R ⟨f', g.nx.set i (g.nx.getD i default + 1), g.has.set (gJ L g i) i⟩ := by
  have hi : i ∈ g.free := by rw [hf]; simp
  have hin := h.freeLt i hi
  have hlt := h.nx_lt hL hi
  have hj : gJ L g i < n := hL.get_lt hin hlt
  have hnd := h.nodup
  rw [hf, List.nodup_cons] at hnd
  have hnx : ∀ k, (g.nx.set i (g.nx.getD i default + 1)).getD k default = if k = i then g.nx.getD i default + 1 else g.nx.getD k default := fun k => getD_set _ _ _ _ (by rw [h.ln]; exact hin)
  have hhas : ∀ k, (g.has.set (gJ L g i) (i : Int)).getD k default = if k = gJ L g i then (i : Int) else g.has.getD k default := fun k => getD_set _ _ _ _ (by rw [h.lh]; exact hj)
  -- i has nobody yet
  have hno : ∀ k, k < n → g.has.getD k default ≠ (i : Int) := by
    intro k hk e
    rcases h.hasR k hk with h3 | ⟨b, _, h3, h4, _⟩
    · omega
    · have : b = i := by omega
      subst this; exact h4 hi
  have hwi : ∀ w : Nat, g.has.getD (gJ L g i) default = (w : Int) → w ≠ i := fun w e e' => hno _ hj (by rw [e, e'])
  have hwf : ∀ w : Nat, g.has.getD (gJ L g i) default = (w : Int) → w ∉ g.free := by
    intro w e
    rcases h.hasR _ hj with h3 | ⟨b, _, h3, h4, _⟩
    · omega
    · have : b = w := by omega
      subst this; exact h4
  have hmem : ∀ x : Nat, x ∈ f' → (x ∈ rest ∨ g.has.getD (gJ L g i) default = (x : Int)) := by
    intro x hx
    rcases hw with ⟨_, e⟩ | ⟨w, _, h1, _, e⟩
    · rw [e] at hx; exact .inl hx
    · rw [e] at hx
      rcases List.mem_cons.1 hx with rfl | hx
      · exact .inr h1
      · exact .inl hx
  refine ⟨by simp [h.ln], by simp [h.lh], fun x hx => ?_, ?_, fun j' hj' => ?_, fun x hx => ?_, fun x hx => ?_, fun x hx t ht => ?_, fun x hx t ht hne0 h' hp hs => ?_⟩
  · rcases hw with ⟨_, e⟩ | ⟨w, h0, _, _, e⟩
    · simp only [e] at hx; exact h.freeLt x (by rw [hf]; simp [hx])
    · simp only [e] at hx
      rcases List.mem_cons.1 hx with rfl | hx
      · exact h0
      · exact h.freeLt x (by rw [hf]; simp [hx])
  · rcases hw with ⟨_, e⟩ | ⟨w, h0, h1, _, e⟩
    · simp only [e]; exact hnd.2
    · simp only [e]
      refine List.nodup_cons.2 ⟨fun h2 => hwf w h1 (by rw [hf]; simp [h2]), hnd.2⟩
  · show (g.has.set (gJ L g i) (i : Int)).getD j' default = -1 ∨ ∃ x, x < n ∧ (g.has.set (gJ L g i) (i : Int)).getD j' default = (x : Int) ∧ x ∉ f' ∧ 0 < (g.nx.set i (g.nx.getD i default + 1)).getD x default ∧ (L.getD x default).getD ((g.nx.set i (g.nx.getD i default + 1)).getD x default - 1) default = j'
    rw [hhas]
    by_cases e : j' = gJ L g i
    · rw [if_pos e]
      refine .inr ⟨i, hin, rfl, fun h2 => ?_, by rw [hnx, if_pos rfl]; omega, by rw [hnx, if_pos rfl, e]; rfl⟩
      rcases hmem i h2 with h3 | h3
      · exact hnd.1 h3
      · exact hwi i h3 rfl
    · rw [if_neg e]
      rcases h.hasR j' hj' with h3 | ⟨b, hb, h3, h4, h5, h6⟩
      · exact .inl h3
      · have hbi : b ≠ i := fun e' => h4 (by rw [e']; exact hi)
        refine .inr ⟨b, hb, h3, fun h2 => ?_, by rw [hnx, if_neg hbi]; exact h5, by rw [hnx, if_neg hbi]; exact h6⟩
        rcases hmem b h2 with h7 | h7
        · exact h4 (by rw [hf]; simp [h7])
        · exact e (h.inj hj' hj h3 h7)
  · show x ∈ f' ∨ ∃ j, j < n ∧ (g.has.set (gJ L g i) (i : Int)).getD j default = (x : Int)
    rcases h.cov x hx with h1 | ⟨j', hj', h1⟩
    · rw [hf] at h1
      rcases List.mem_cons.1 h1 with rfl | h1
      · exact .inr ⟨_, hj, by rw [hhas, if_pos rfl]⟩
      · refine .inl ?_
        rcases hw with ⟨_, e⟩ | ⟨w, _, _, _, e⟩
        · rw [e]; exact h1
        · rw [e]; simp [h1]
    · by_cases e : j' = gJ L g i
      · subst e
        rcases hw with ⟨h2, _⟩ | ⟨w, _, h2, _, e⟩
        · omega
        · have : w = x := by omega
          subst this
          rw [e]; simp
      · exact .inr ⟨j', hj', by rw [hhas, if_neg e]; exact h1⟩
  · show (g.nx.set i (g.nx.getD i default + 1)).getD x default ≤ n
    rw [hnx]
    split
    · omega
    · exact h.nxle x hx
  · show ∃ k, k < n ∧ (g.has.set (gJ L g i) (i : Int)).getD ((L.getD x default).getD t default) default = (k : Int) ∧ _
    have ht : t < (g.nx.set i (g.nx.getD i default + 1)).getD x default := ht
    rw [hnx] at ht
    rw [hhas]
    by_cases e : (L.getD x default).getD t default = gJ L g i
    · rw [if_pos e, e]
      refine ⟨i, hin, rfl, ?_⟩
      by_cases hxi : x = i
      · subst hxi; exact Nat.le_refl _
      · rw [if_neg hxi] at ht
        obtain ⟨k, hk, h1, h2⟩ := h.prop x hx t ht
        rw [e] at h1 h2
        rcases hw with ⟨h3, _⟩ | ⟨w, _, h3, h4, _⟩
        · omega
        · have : w = k := by omega
          subst this; omega
    · rw [if_neg e]
      by_cases hxi : x = i
      · subst hxi
        rw [if_pos rfl] at ht
        have : t < g.nx.getD x default := by
          rcases Nat.lt_or_ge t (g.nx.getD x default) with h' | h'
          · exact h'
          · have : t = g.nx.getD x default := by omega
            subst this; exact absurd rfl e
        exact h.prop x hx t this
      · rw [if_neg hxi] at ht
        exact h.prop x hx t ht
  · have ht : t < (g.nx.set i (g.nx.getD i default + 1)).getD x default := ht
    have hne : (g.has.set (gJ L g i) (i : Int)).getD ((L.getD x default).getD t default) default ≠ (x : Int) := hne0
    clear hne0
    rw [hnx] at ht
    rw [hhas] at hne
    by_cases e : (L.getD x default).getD t default = gJ L g i
    · rw [if_pos e] at hne
      have hxi : x ≠ i := fun e' => hne (by rw [e'])
      rw [if_neg hxi] at ht
      rw [e]
      by_cases hx2 : g.has.getD (gJ L g i) default = (x : Int)
      · -- x was put away for i
        rcases hw with ⟨h3, _⟩ | ⟨w, _, h3, h4, _⟩
        · omega
        · have : w = x := by omega
          subst this
          intro he
          have hst := hs i w hin hx
          rw [he] at hst
          have h5 : ¬ rk L i (gJ L g i) < rk L i (h' i) := fun h5 => hst ⟨h5, h4⟩
          have hi' := hp.lt i hin
          have e1 : rk L i (gJ L g i) = g.nx.getD i default := hL.rk_get hin hlt
          have e2 : h' i ≠ gJ L g i := fun e3 => hxi (hp.inj w i hx hin (by rw [he, e3]))
          have h6 : rk L i (h' i) ≠ rk L i (gJ L g i) := fun e3 => e2 (hL.rk_inj hin hi' hj e3)
          have h7 := h.imp i hin (rk L i (h' i)) (by omega) (by rw [hL.get_rk hin hi']; exact hno _ hi') h' hp hs
          rw [hL.get_rk hin hi'] at h7
          exact h7 rfl
      · have := h.imp x hx t ht (by rw [e]; exact hx2) h' hp hs
        rw [e] at this; exact this
    · rw [if_neg e] at hne
      by_cases hxi : x = i
      · subst hxi
        rw [if_pos rfl] at ht
        have : t < g.nx.getD x default := by
          rcases Nat.lt_or_ge t (g.nx.getD x default) with h' | h'
          · exact h'
          · have : t = g.nx.getD x default := by omega
            subst this; exact absurd rfl e
        exact h.imp x hx t this hne h' hp hs
      · rw [if_neg hxi] at ht
        exact h.imp x hx t ht hne h' hp hs
/-- One who asks, and is not taken. -/
theorem GI.keep {g : GS} {i w : Nat} {rest : List Nat} (hL : Prefs n L) (hR : Prefs n R) (h : GI n L R g) (hf : g.free = i :: rest) (hw : w < n) (hh : g.has.getD (gJ L g i) default = (w : Int))
    (hlt2 : ¬ rk R (gJ L g i) i < rk R (gJ L g i) w) : GI n L R ⟨i :: rest, g.nx.set i (g.nx.getD i default + 1), g.has⟩ := by
  have hi : i ∈ g.free := by rw [hf]; simp
  have hin := h.freeLt i hi
  have hlt := h.nx_lt hL hi
  have hj : gJ L g i < n := hL.get_lt hin hlt
  have hnx : ∀ k, (g.nx.set i (g.nx.getD i default + 1)).getD k default = if k = i then g.nx.getD i default + 1 else g.nx.getD k default := fun k => getD_set _ _ _ _ (by rw [h.ln]; exact hin)
  have hwf : w ∉ g.free := by
    rcases h.hasR _ hj with h3 | ⟨b, _, h3, h4, _⟩
    · omega
    · have : b = w := by omega
      subst this; exact h4
  have hwi : w ≠ i := fun e => hwf (by rw [e]; exact hi)
  refine ⟨by simp [h.ln], h.lh, fun x hx => h.freeLt x (by rw [hf]; exact hx), by have := h.nodup; rw [hf] at this; exact this, fun j' hj' => ?_, fun x hx => by have := h.cov x hx; rw [hf] at this; exact this, fun x hx => ?_, fun x hx t ht => ?_, fun x hx t ht hne0 h' hp hs => ?_⟩
  · rcases h.hasR j' hj' with h3 | ⟨b, hb, h3, h4, h5, h6⟩
    · exact .inl h3
    · have hbi : b ≠ i := fun e' => h4 (by rw [e']; exact hi)
      refine .inr ⟨b, hb, h3, by rw [hf] at h4; exact h4, ?_, ?_⟩
      · show 0 < (g.nx.set i (g.nx.getD i default + 1)).getD b default
        rw [hnx, if_neg hbi]; exact h5
      · show (L.getD b default).getD ((g.nx.set i (g.nx.getD i default + 1)).getD b default - 1) default = j'
        rw [hnx, if_neg hbi]; exact h6
  · show (g.nx.set i (g.nx.getD i default + 1)).getD x default ≤ n
    rw [hnx]
    split
    · omega
    · exact h.nxle x hx
  · have ht : t < (g.nx.set i (g.nx.getD i default + 1)).getD x default := ht
    show ∃ k, k < n ∧ g.has.getD ((L.getD x default).getD t default) default = (k : Int) ∧ _
    rw [hnx] at ht
    by_cases hxi : x = i
    · subst hxi
      rw [if_pos rfl] at ht
      by_cases h1 : t < g.nx.getD x default
      · exact h.prop x hx t h1
      · have : t = g.nx.getD x default := by omega
        subst this
        exact ⟨w, hw, hh, by show rk R (gJ L g x) w ≤ rk R (gJ L g x) x; omega⟩
    · rw [if_neg hxi] at ht
      exact h.prop x hx t ht
  · have ht : t < (g.nx.set i (g.nx.getD i default + 1)).getD x default := ht
    have hne : g.has.getD ((L.getD x default).getD t default) default ≠ (x : Int) := hne0
    clear hne0
    rw [hnx] at ht
    by_cases hxi : x = i
    · subst hxi
      rw [if_pos rfl] at ht
      by_cases h1 : t < g.nx.getD x default
      · exact h.imp x hx t h1 hne h' hp hs
      · have : t = g.nx.getD x default := by omega
        subst this
        show h' x ≠ gJ L g x
        intro he
        have hst := hs w x hw hx
        rw [he] at hst
        have hw' := hp.lt w hw
        have e2 : h' w ≠ gJ L g x := fun e3 => hwi (hp.inj w x hw hx (by rw [he, e3]))
        have h4 : rk R (gJ L g x) w ≠ rk R (gJ L g x) x := fun e3 => hwi (hR.rk_inj hj hw hx e3)
        have h5 : ¬ rk L w (gJ L g x) < rk L w (h' w) := fun h5 => hst ⟨h5, by omega⟩
        have h6 : rk L w (h' w) ≠ rk L w (gJ L g x) := fun e3 => e2 (hL.rk_inj hw hw' hj e3)
        -- w has asked h' w before
        rcases h.hasR _ hj with h3 | ⟨b, _, h3, _, h7, h8⟩
        · omega
        · have : b = w := by omega
          subst this
          have e1 : rk L b (gJ L g x) = g.nx.getD b default - 1 := by
            rw [← h8]
            exact hL.rk_get hw (by have := h.nxle b hw; omega)
          have h9 := h.imp b hw (rk L b (h' b)) (by omega) (by
            rw [hL.get_rk hw hw']
            intro e3
            exact e2 (h.inj hw' hj e3 hh)) h' hp hs
          rw [hL.get_rk hw hw'] at h9
          exact h9 rfl
    · rw [if_neg hxi] at ht
      exact h.imp x hx t ht hne h' hp hs
theorem GI.step {g : GS} (hL : Prefs n L) (hR : Prefs n R) (h : GI n L R g) : GI n L R (gStep L R g) := by
  obtain ⟨free, nx, has⟩ := g
  cases free with
  | nil => exact h
  | cons i rest =>
    have hin := h.freeLt i (by simp)
    have hj : gJ L ⟨i :: rest, nx, has⟩ i < n := hL.get_lt hin (h.nx_lt hL (by simp))
    show GI n L R (if _ then _ else if _ then _ else _)
    split
    · rename_i h0
      refine h.take hL hR rfl _ (.inl ⟨?_, rfl⟩)
      rcases h.hasR _ hj with h3 | ⟨b, _, h3, _⟩
      · exact h3
      · simp only at h0 h3; omega
    · rename_i h0
      rcases h.hasR _ hj with h3 | ⟨b, hb, h3, _⟩
      · simp only at h0 h3; omega
      · have e : (has.getD (gJ L ⟨i :: rest, nx, has⟩ i) default).toNat = b := by simp only at h3; rw [h3]; rfl
        simp only [e]
        split
        · rename_i h1
          exact h.take hL hR rfl _ (.inr ⟨b, hb, h3, h1, rfl⟩)
        · rename_i h1
          exact h.keep hL hR rfl hb h3 h1
theorem GI.start (n : Nat) (L R : List (List Nat)) : GI n L R (gStart n) := by
  have hz : ∀ i, (List.replicate n 0).getD i default = 0 := fun i => by
    rw [List.getD_eq_getElem?_getD, List.getElem?_replicate]; split <;> rfl
  refine ⟨by simp [gStart], by simp [gStart], fun i hi => by simpa [gStart] using hi, List.nodup_range, fun j hj => .inl ?_, fun i hi => .inl (by simpa [gStart] using hi), fun i hi => ?_, fun i hi t ht => ?_, fun i hi t ht => ?_⟩
  · simp only [gStart]
    rw [List.getD_eq_getElem?_getD, List.getElem?_replicate, if_pos hj]; rfl
  · simp only [gStart, hz]; omega
  · simp only [gStart, hz] at ht; omega
  · simp only [gStart, hz] at ht; omega
/-- How much has been asked. -/
def asked (g : GS) : Nat := g.nx.sum
end
end Go.Proofs

namespace Go.Proofs
open Go.Aw
/-- Ways that, behind where they begin, keep out of S. -/
inductive Avo (l : List (Nat × Nat)) (S : Nat → Prop) (a : Nat) : Nat → Prop
  | refl : Avo l S a a
  | step {b c : Nat} (h : Avo l S a b) (h1 : (b, c) ∈ l) (h2 : ¬ S c) : Avo l S a c
theorem Avo.path {l : List (Nat × Nat)} {S : Nat → Prop} {a b : Nat} (h : Avo l S a b) : Path l a b := by
  induction h with
  | refl => exact .refl
  | step _ h1 _ ih => exact .step ih h1
theorem Avo.mono {l : List (Nat × Nat)} {S T : Nat → Prop} (hs : ∀ x, T x → S x) {a b : Nat} (h : Avo l S a b) : Avo l T a b := by
  induction h with
  | refl => exact .refl
  | step _ h1 h2 ih => exact .step ih h1 (fun h => h2 (hs _ h))
theorem Avo.trans {l : List (Nat × Nat)} {S : Nat → Prop} {a b c : Nat} (h : Avo l S a b) (k : Avo l S b c) : Avo l S a c := by
  induction k with
  | refl => exact h
  | step _ h1 h2 ih => exact .step ih h1 h2
theorem Avo.last {l : List (Nat × Nat)} {S : Nat → Prop} {a b : Nat} (h : Avo l S a b) : a = b ∨ ¬ S b := by
  cases h with
  | refl => exact .inl rfl
  | step _ _ h2 => exact .inr h2
/-- A way has a last point in S, or keeps out of S. -/
theorem Path.lastIn {l : List (Nat × Nat)} (S : Nat → Prop) {a b : Nat} (h : Path l a b) : Avo l S a b ∨ ∃ x, S x ∧ Path l a x ∧ Avo l S x b := by
  induction h with
  | refl => exact .inl .refl
  | step h1 h2 ih =>
    rename_i b c
    by_cases hc : S c
    · exact .inr ⟨c, hc, .step h1 h2, .refl⟩
    · rcases ih with ih | ⟨x, hx, h3, h4⟩
      · exact .inl (.step ih h2 hc)
      · exact .inr ⟨x, hx, h3, .step h4 h2 hc⟩
theorem avo_rch {n k : Nat} {l : List (Nat × Nat)} (hg : Good n l) {a b : Nat} (ha : a < n) : Rch (outS n l) (dif (2 ^ n - 1) (2 ^ k)) a b ↔ Avo l (fun x => x = k) a b := by
  have hb : ∀ j, (dif (2 ^ n - 1) (2 ^ k)).testBit j = true ↔ j < n ∧ ¬ j = k := fun j => by
    rw [dif_bit]
    have h1 := below_bit n j
    have h2 := two_pow_bit k j
    cases h3 : (2 ^ n - 1).testBit j <;> cases h4 : (2 ^ k).testBit j <;> simp [h3, h4] at h1 h2 ⊢ <;> omega
  constructor
  · intro h
    induction h with
    | refl => exact .refl
    | step _ h1 h2 ih => exact .step ih ((outS_bit _ _ _ _).1 h1).2 ((hb _).1 h2).2
  · intro h
    induction h with
    | refl => exact .refl
    | step h h1 h2 ih => exact .step ih ((outS_bit _ _ _ _).2 ⟨h.path.lt hg ha, h1⟩) ((hb _).2 ⟨(hg _ h1).2, h2⟩)
/-- All ways from one point to i go over k. -/
def Ov (l : List (Nat × Nat)) (f i k : Nat) : Prop := Path l f i ∧ (k = i ∨ k = f ∨ ¬ Avo l (fun x => x = k) f i)
theorem Ov.self {l : List (Nat × Nat)} {f i : Nat} (h : Path l f i) : Ov l f i i := ⟨h, .inl rfl⟩
theorem Ov.first {l : List (Nat × Nat)} {f i : Nat} (h : Path l f i) : Ov l f i f := ⟨h, .inr (.inl rfl)⟩
theorem Ov.reach {l : List (Nat × Nat)} {f i k : Nat} (h : Ov l f i k) : Path l f k := by
  obtain ⟨h1, rfl | rfl | h2⟩ := h
  · exact h1
  · exact .refl
  · rcases h1.lastIn (fun x => x = k) with h3 | ⟨x, rfl, h3, _⟩
    · exact absurd h3 h2
    · exact h3
theorem Ov.at_first {l : List (Nat × Nat)} {f k : Nat} (h : Ov l f f k) : k = f := by
  rcases h.2 with h | h | h
  · exact h
  · exact h
  · exact absurd .refl h
/-- Whom one can't go around on the way there one can't, either. -/
theorem Ov.trans {l : List (Nat × Nat)} {f i x y : Nat} (h : Ov l f i x) (k : Ov l f x y) : Ov l f i y := by
  refine ⟨h.1, ?_⟩
  by_cases hy : y = f
  · exact .inr (.inl hy)
  by_cases hyi : y = i
  · exact .inl hyi
  refine .inr (.inr fun ha => ?_)
  -- a way to i that keeps out of y goes over x
  rcases h.2 with rfl | rfl | hx
  · rcases k.2 with h1 | h1 | h1
    · exact hyi h1
    · exact hy h1
    · exact h1 ha
  · exact hy k.at_first
  · by_cases hxy : y = x
    · subst hxy; exact hx ha
    rcases k.2 with h1 | h1 | h1
    · exact hxy h1
    · exact hy h1
    · -- Avo y from f to i contains x
      have : ∀ j, Avo l (fun z => z = y) f j → Avo l (fun z => z = x) f j ∨ Avo l (fun z => z = y) f x := by
        intro j hj
        induction hj with
        | refl => exact .inl .refl
        | step g1 g2 g3 ih =>
          rename_i b c
          rcases ih with ih | ih
          · by_cases hc : c = x
            · subst hc; exact .inr (.step g1 g2 g3)
            · exact .inl (.step ih g2 hc)
          · exact .inr ih
      rcases this _ ha with h2 | h2
      · exact hx h2
      · exact h1 h2
/-- Of two whom one can't go around one can't go around the one on the way to the other. -/
theorem Ov.chain {l : List (Nat × Nat)} {f i x y : Nat} (hx : Ov l f i x) (hy : Ov l f i y) : Ov l f x y ∨ Ov l f y x := by
  by_cases hxf : x = f
  · subst hxf; exact .inr ⟨hy.reach, .inr (.inl rfl)⟩
  by_cases hyf : y = f
  · subst hyf; exact .inl ⟨hx.reach, .inr (.inl rfl)⟩
  by_cases hxy : x = y
  · subst hxy; exact .inl ⟨hx.reach, .inl rfl⟩
  have key : ∀ {x y : Nat}, Ov l f i x → Ov l f i y → ¬ y = f → ¬ x = y → Avo l (fun z => z = x ∨ z = y) x i → Ov l f x y := by
    intro x y hx hy hyf hxy h
    refine ⟨hx.reach, .inr (.inr fun ha => ?_)⟩
    have h1 : Avo l (fun z => z = y) f i := ha.trans (h.mono fun z hz => .inr hz)
    rcases hy.2 with h2 | h2 | h2
    · subst h2
      rcases h.last with h3 | h3
      · exact hxy h3
      · exact h3 (.inr rfl)
    · exact hyf h2
    · exact h2 h1
  rcases hx.1.lastIn (fun z => z = x ∨ z = y) with h | ⟨z, rfl | rfl, _, h⟩
  · exfalso
    rcases hx.2 with h1 | h1 | h1
    · subst h1
      rcases h.last with h3 | h3
      · exact hxf h3.symm
      · exact h3 (.inl rfl)
    · exact hxf h1
    · exact h1 (h.mono fun z hz => .inl hz)
  · exact .inl (key hx hy hyf hxy h)
  · exact .inr (key hy hx hxf (fun e => hxy e.symm) (h.mono fun w hw => hw.symm))
/-- The lines that keep off a point. -/
def offL (l : List (Nat × Nat)) (k : Nat) : List (Nat × Nat) := l.filter fun p => decide (p.1 ≠ k) && decide (p.2 ≠ k)
end Go.Proofs

namespace Go.Proofs
open Go.Aw
theorem Path.firstIn {l : List (Nat × Nat)} (S : Nat → Prop) {a b : Nat} (h : Path l a b) (ha : ¬ S a) : Avo l S a b ∨ ∃ u w, S w ∧ Avo l S a u ∧ (u, w) ∈ l := by
  induction h with
  | refl => exact .inl .refl
  | step h1 h2 ih =>
    rename_i b c
    rcases ih with ih | ih
    · by_cases hc : S c
      · exact .inr ⟨b, c, hc, ih, h2⟩
      · exact .inl (.step ih h2 hc)
    · exact .inr ih
theorem Ov.anti {l : List (Nat × Nat)} {f x y : Nat} (h1 : Ov l f x y) (h2 : Ov l f y x) : x = y := by
  refine Classical.byContradiction fun hxy => ?_
  have hyf : y ≠ f := fun e => by subst e; exact hxy h2.at_first
  have hxf : x ≠ f := fun e => by subst e; exact hxy h1.at_first.symm
  have a1 : ¬ Avo l (fun z => z = y) f x := (h1.2.resolve_left fun e => hxy e.symm).resolve_left hyf
  have a2 : ¬ Avo l (fun z => z = x) f y := (h2.2.resolve_left hxy).resolve_left hxf
  rcases h1.1.firstIn (fun z => z = x ∨ z = y) (by rintro (e | e); exact hxf e.symm; exact hyf e.symm) with h | ⟨u, w, hw, h, hl⟩
  · exact a1 (h.mono fun z hz => .inr hz)
  · rcases hw with rfl | rfl
    · exact a1 (.step (h.mono fun z hz => .inr hz) hl hxy)
    · exact a2 (.step (h.mono fun z hz => .inl hz) hl fun e => hxy e.symm)
/-- Does k stand over i? -/
def ovC (n : Nat) (l : List (Nat × Nat)) (f i k : Nat) : Bool := decide (k = i) || decide (k = f) || !(reach (outS n l) (dif (2 ^ n - 1) (2 ^ k)) f).testBit i
def ovS (n : Nat) (l : List (Nat × Nat)) (f i : Nat) : Nat := addAll 0 ((List.range n).filter (ovC n l f i))
/-- Over which points each way to each one goes. -/
def ovL (n : Nat) (l : List (Nat × Nat)) (f : Nat) : List Nat := (List.range n).map fun i => if (rs n l f).testBit i then ovS n l f i else 0
section
variable {n : Nat} {l : List (Nat × Nat)} {f : Nat} (hn : n ≤ 64) (hg : Good n l) (hf : f < n)
include hn hg hf
theorem ovL_bit (i k : Nat) : ((ovL n l f).getD i default).testBit k = true ↔ k < n ∧ Ov l f i k := by
  by_cases hi : i < n
  · have e : (ovL n l f).getD i default = if (rs n l f).testBit i then ovS n l f i else 0 := by
      unfold ovL
      rw [List.getD_eq_getElem?_getD, List.getElem?_map, List.getElem?_range hi]; rfl
    rw [e]
    by_cases h : (rs n l f).testBit i = true
    · rw [if_pos h]
      have hp := (rs_bit hn hg hf i).1 h
      unfold ovS
      rw [addAll_bit, List.mem_filter, List.mem_range]
      unfold ovC
      have hr : (reach (outS n l) (dif (2 ^ n - 1) (2 ^ k)) f).testBit i = true ↔ Avo l (fun x => x = k) f i := by
        rw [reach_bit (outS_lt' hn hg) (by omega), avo_rch hg hf]
      constructor
      · rintro (h1 | ⟨h1, h2⟩)
        · simp at h1
        · refine ⟨h1, hp, ?_⟩
          rw [Bool.or_eq_true, Bool.or_eq_true, decide_eq_true_eq, decide_eq_true_eq] at h2
          rcases h2 with (h2 | h2) | h2
          · exact .inl h2
          · exact .inr (.inl h2)
          · refine .inr (.inr fun h3 => ?_)
            rw [hr.2 h3] at h2; cases h2
      · rintro ⟨h1, _, h2⟩
        refine .inr ⟨h1, ?_⟩
        rw [Bool.or_eq_true, Bool.or_eq_true, decide_eq_true_eq, decide_eq_true_eq]
        rcases h2 with h2 | h2 | h2
        · exact .inl (.inl h2)
        · exact .inl (.inr h2)
        · right
          cases h3 : (reach (outS n l) (dif (2 ^ n - 1) (2 ^ k)) f).testBit i
          · rfl
          · exact absurd (hr.1 h3) h2
    · rw [if_neg h]
      constructor
      · intro h1; simp at h1
      · intro h1; exact absurd ((rs_bit hn hg hf i).2 h1.2.1) h
  · have e : (ovL n l f).getD i default = default := by
      rw [List.getD_eq_getElem?_getD, List.getElem?_eq_none (by simp [ovL]; omega)]; rfl
    rw [e]
    constructor
    · intro h; exact absurd h (by show ¬ (Nat.testBit 0 k = true); simp)
    · rintro ⟨_, h⟩
      have := h.1.lt hg hf
      omega
theorem ovL_pts (i k : Nat) : k ∈ pts ((ovL n l f).getD i default) ↔ k < n ∧ Ov l f i k := by
  rw [pts_mem, ovL_bit hn hg hf]
  exact ⟨fun h => h.2, fun h => ⟨by omega, h⟩⟩
omit hn in
theorem Ov.lt {i k : Nat} (h : Ov l f i k) : k < n := h.reach.lt hg hf
theorem ovL_mem (i k : Nat) : k ∈ pts ((ovL n l f).getD i default) ↔ Ov l f i k := by
  rw [ovL_pts hn hg hf]
  exact ⟨fun h => h.2, fun h => ⟨h.lt hg hf, h⟩⟩
end
/-- Of some points the one over which most are. -/
def bestK (all : List Nat) (b : Int) (k : Nat) : Int := if b < 0 ∨ (pts (all.getD b.toNat default)).length < (pts (all.getD k default)).length then (k : Int) else b
def lastI (all : List Nat) (i : Nat) : Int := (pts (dif (all.getD i default) (2 ^ i))).foldl (bestK all) (-1)
def lastL (n : Nat) (all : List Nat) : List Int := (List.range n).map (lastI all)
theorem bestK_spec (all : List Nat) : ∀ (L : List Nat) (b : Int), (b = -1 ∨ ∃ x : Nat, b = (x : Int)) →
    (L.foldl (bestK all) b = -1 ∧ L = [] ∧ b = -1) ∨ ∃ x : Nat, L.foldl (bestK all) b = (x : Int) ∧ (x ∈ L ∨ b = (x : Int)) ∧ (∀ k ∈ L, (pts (all.getD k default)).length ≤ (pts (all.getD x default)).length) ∧ (∀ y : Nat, b = (y : Int) → (pts (all.getD y default)).length ≤ (pts (all.getD x default)).length) := by
  intro L
  induction L with
  | nil =>
    intro b hb
    rcases hb with rfl | ⟨x, rfl⟩
    · exact .inl ⟨rfl, rfl, rfl⟩
    · refine .inr ⟨x, rfl, .inr rfl, by simp, fun y hy => ?_⟩
      have := Int.ofNat_inj.1 hy
      rw [this]; exact Nat.le_refl _
  | cons k L ih =>
    intro b hb
    rw [List.foldl_cons]
    have step : bestK all b k = (k : Int) ∨ (∃ x : Nat, b = (x : Int) ∧ bestK all b k = (x : Int) ∧ (pts (all.getD k default)).length ≤ (pts (all.getD x default)).length) := by
      unfold bestK
      split
      · exact .inl rfl
      · rename_i h
        rcases hb with rfl | ⟨x, rfl⟩
        · exact absurd (.inl (by decide)) h
        · refine .inr ⟨x, rfl, rfl, ?_⟩
          rw [Int.toNat_natCast] at h
          omega
    rcases step with e | ⟨x, hx, e, hle⟩
    · rcases ih _ (.inr ⟨k, e⟩) with h | ⟨z, h1, h2, h3, h4⟩
      · rw [e] at h; omega
      · refine .inr ⟨z, h1, .inl ?_, fun j hj => ?_, fun y hy => ?_⟩
        · rcases h2 with h2 | h2
          · exact List.mem_cons_of_mem _ h2
          · rw [e] at h2
            rw [Int.ofNat_inj.1 h2]; simp
        · rcases List.mem_cons.1 hj with rfl | hj
          · exact h4 _ e
          · exact h3 j hj
        · have := h4 k e
          subst hy
          unfold bestK at e
          rw [Int.toNat_natCast] at e
          split at e
          · rename_i h
            rcases h with h | h
            · omega
            · omega
          · have := Int.ofNat_inj.1 e; subst this; exact h4 _ (by unfold bestK; rw [Int.toNat_natCast]; split <;> rfl)
    · rcases ih _ (.inr ⟨x, e⟩) with h | ⟨z, h1, h2, h3, h4⟩
      · rw [e] at h; omega
      · refine .inr ⟨z, h1, ?_, fun j hj => ?_, fun y hy => ?_⟩
        · rcases h2 with h2 | h2
          · exact .inl (List.mem_cons_of_mem _ h2)
          · rw [e] at h2
            exact .inr (hx.trans h2)
        · have := h4 x e
          rcases List.mem_cons.1 hj with rfl | hj
          · omega
          · exact h3 j hj
        · rw [hx] at hy
          have := Int.ofNat_inj.1 hy; subst this
          exact h4 x e
section
variable {n : Nat} {l : List (Nat × Nat)} {f : Nat} (hn : n ≤ 64) (hg : Good n l) (hf : f < n)
include hn hg hf
theorem last_mem (i k : Nat) : k ∈ pts (dif ((ovL n l f).getD i default) (2 ^ i)) ↔ Ov l f i k ∧ k ≠ i := by
  rw [pts_mem, dif_bit, Bool.and_eq_true, ovL_bit hn hg hf]
  have h2 := two_pow_bit i k
  constructor
  · rintro ⟨_, ⟨_, h⟩, h3⟩
    refine ⟨h, fun e => ?_⟩
    rw [h2.2 e.symm] at h3; cases h3
  · rintro ⟨h, h3⟩
    have := h.lt hg hf
    refine ⟨by omega, ⟨this, h⟩, ?_⟩
    cases h4 : (2 ^ i).testBit k
    · rfl
    · exact absurd (h2.1 h4).symm h3
/-- The last one ahead: none, and only the point itself is over it; or one, and over it are all but the point. -/
theorem last_spec (i : Nat) : (lastI (ovL n l f) i = -1 ∧ ∀ k, Ov l f i k → k = i) ∨ ∃ p : Nat, lastI (ovL n l f) i = (p : Int) ∧ p ≠ i ∧ Ov l f i p ∧ ∀ k, Ov l f i k ↔ k = i ∨ Ov l f p k := by
  rcases bestK_spec (ovL n l f) (pts (dif ((ovL n l f).getD i default) (2 ^ i))) (-1) (.inl rfl) with ⟨h1, h2, _⟩ | ⟨p, h1, h2, h3, _⟩
  · refine .inl ⟨h1, fun k hk => Classical.byContradiction fun hne => ?_⟩
    have := (last_mem hn hg hf i k).2 ⟨hk, hne⟩
    rw [h2] at this; cases this
  · have hp := (last_mem hn hg hf i p).1 (h2.resolve_right (by omega))
    refine .inr ⟨p, h1, hp.2, hp.1, fun k => ⟨fun hk => ?_, fun hk => ?_⟩⟩
    · by_cases hki : k = i
      · exact .inl hki
      · right
        rcases hp.1.chain hk with h | h
        · exact h
        · have h5 := h3 k ((last_mem hn hg hf i k).2 ⟨hk, hki⟩)
          -- over p are some of those over k, and as many
          by_cases hpk : p = k
          · subst hpk; exact h
          · exfalso
            have := pig (L := k :: pts ((ovL n l f).getD p default)) (M := pts ((ovL n l f).getD k default)) (List.nodup_cons.2 ⟨fun hm => ?_, pts_nodup _⟩) (fun x hx => ?_)
            · rw [List.length_cons] at this; omega
            · have h6 := (ovL_mem hn hg hf p k).1 hm
              exact hpk (h.anti h6).symm
            · rw [ovL_mem hn hg hf]
              rcases List.mem_cons.1 hx with rfl | hx
              · exact .self hk.reach
              · exact h.trans ((ovL_mem hn hg hf p x).1 hx)
    · rcases hk with rfl | hk
      · exact .self hp.1.1
      · exact hp.1.trans hk
end
/-- The way over the last ones. -/
def wayS (k : List Int) (s : List Nat × Int) : List Nat × Int := (s.1 ++ [s.2.toNat], k.getD s.2.toNat default)
structure WI (l : List (Nat × Nat)) (n f i : Nat) (s : List Nat × Int) : Prop where
  nodup : s.1.Nodup
  mem : ∀ x ∈ s.1, Ov l f i x
  at' : (s.2 = -1 ∧ (∀ x, Ov l f i x → x ∈ s.1) ∧ s.1 ≠ [] ∧ s.1.getLast? = some f) ∨ ∃ a : Nat, s.2 = (a : Int) ∧ a < n ∧ Ov l f i a ∧ (∀ x, Ov l f i x ↔ x ∈ s.1 ∨ Ov l f a x) ∧ ∀ x ∈ s.1, ¬ Ov l f a x
section
variable {n : Nat} {l : List (Nat × Nat)} {f : Nat} (hn : n ≤ 64) (hg : Good n l) (hf : f < n)
include hn hg hf
omit hn hg hf in
theorem WI.start {i : Nat} (hi : i < n) (h : Path l f i) : WI l n f i ([], (i : Int)) :=
  ⟨List.nodup_nil, by simp, .inr ⟨i, rfl, hi, .self h, fun x => by simp, by simp⟩⟩
omit hn hg hf in
theorem last_get {a : Nat} (ha : a < n) : (lastL n (ovL n l f)).getD a default = lastI (ovL n l f) a := by
  unfold lastL
  rw [List.getD_eq_getElem?_getD, List.getElem?_map, List.getElem?_range ha]; rfl
theorem WI.step {i : Nat} {s : List Nat × Int} (h : WI l n f i s) (ha : 0 ≤ s.2) : WI l n f i (wayS (lastL n (ovL n l f)) s) := by
  rcases h.at' with ⟨h1, _⟩ | ⟨a, h1, h2, h3, h4, h5⟩
  · omega
  obtain ⟨way, at'⟩ := s
  simp only at h1 h4 h5 ha
  subst h1
  have haa : a ∉ way := fun hm => h5 a hm (.self h3.reach)
  have hnd : (way ++ [a]).Nodup := by
    rw [List.nodup_append]
    exact ⟨h.nodup, by simp, fun x hx y hy e => by
      rw [List.mem_singleton.1 hy] at e
      exact haa (e ▸ hx)⟩
  unfold wayS
  simp only [Int.toNat_natCast]
  rw [last_get h2]
  refine ⟨hnd, fun x hx => ?_, ?_⟩
  · rcases List.mem_append.1 hx with hx | hx
    · exact h.mem x hx
    · rw [List.mem_singleton.1 hx]; exact h3
  · rcases last_spec hn hg hf a with ⟨e, hl⟩ | ⟨p, e, hpa, hp, hall⟩
    · refine .inl ⟨e, fun x hx => ?_, by simp, ?_⟩
      · rcases (h4 x).1 hx with hx | hx
        · simp [hx]
        · rw [hl x hx]; simp
      · rw [List.getLast?_append]
        have := hl f (.first h3.reach)
        simp [this]
    · refine .inr ⟨p, e, hp.lt hg hf, h3.trans hp, fun x => ?_, fun x hx hpx => ?_⟩
      · rw [h4 x, hall x, List.mem_append, List.mem_singleton]
        exact or_assoc.symm
      · rcases List.mem_append.1 hx with hx | hx
        · exact h5 x hx (hp.trans hpx)
        · rw [List.mem_singleton.1 hx] at hpx
          exact hpa (hp.anti hpx).symm
omit hn in
/-- After as many steps as there are points the way is at its end. -/
theorem WI.ends {i : Nat} {s : List Nat × Int} (h : WI l n f i s) (hs : s.1.length = n) : s.2 = -1 := by
  rcases h.at' with ⟨h1, _⟩ | ⟨a, h1, h2, h3, h4, h5⟩
  · exact h1
  · have haa : a ∉ s.1 := fun hm => h5 a hm (.self h3.reach)
    have := pig (L := a :: s.1) (M := List.range n) (List.nodup_cons.2 ⟨haa, h.nodup⟩) (fun x hx => by
      rcases List.mem_cons.1 hx with rfl | hx
      · simpa using h2
      · simpa using (h.mem x hx).lt hg hf)
    rw [List.length_cons, List.length_range] at this
    omega
end
end Go.Proofs

namespace Go.Proofs
open Go.Aw
/-- Lines and the same turned. -/
def symL (l : List (Nat × Nat)) : List (Nat × Nat) := l ++ l.map flip
theorem symL_mem {l : List (Nat × Nat)} {a b : Nat} : (a, b) ∈ symL l ↔ (a, b) ∈ l ∨ (b, a) ∈ l := by
  unfold symL; rw [List.mem_append, flip_mem]
theorem PathN.path {l : List (Nat × Nat)} {a k b : Nat} (h : PathN l a k b) : Path l a b := by
  induction h with
  | refl => exact .refl
  | step _ h1 ih => exact .step ih h1
/-- Broad search. -/
structure BS where
  out : List Int
  todo : List Nat
def bJ (x : Nat) (s : BS) (j : Nat) : BS := if s.out.getD j default < 0 then ⟨s.out.set j (s.out.getD x default + 1), s.todo ++ [j]⟩ else s
def bIn (next : List Nat) (s : BS) (x : Nat) : BS := (pts (next.getD x default)).foldl (bJ x) s
def bStep (next : List Nat) (s : BS) : BS := ⟨(bIn next s (s.todo.getD 0 default)).out, (bIn next s (s.todo.getD 0 default)).todo.drop 1⟩
def bRun (next : List Nat) : Nat → BS → BS
  | 0, s => s
  | m + 1, s => if s.todo = [] then s else bRun next m (bStep next s)
def bStart (n f : Nat) : BS := ⟨(List.replicate n (-1)).set f 0, [f]⟩
def farL (n : Nat) (l : List (Nat × Nat)) (f : Nat) : List Int := (bRun (outS n (symL l)) n (bStart n f)).out
def negs (s : List Int) : Nat := s.countP fun x => decide (x < 0)
structure BI (n : Nat) (l : List (Nat × Nat)) (f : Nat) (s : BS) : Prop where
  len : s.out.length = n
  val : ∀ j, j < n → s.out.getD j default = -1 ∨ ∃ k : Nat, s.out.getD j default = (k : Int) ∧ PathN l f k j ∧ k + negs s.out < n
  todo : ∀ x ∈ s.todo, x < n ∧ 0 ≤ s.out.getD x default
  first : 0 ≤ s.out.getD f default
  room : negs s.out < n
/-- Whom a point that is done has lines to are met. -/
def BC (l : List (Nat × Nat)) (s : BS) (D : Nat → Prop) : Prop := ∀ x, 0 ≤ s.out.getD x default → (x ∈ s.todo → D x) → ∀ j, (x, j) ∈ l → 0 ≤ s.out.getD j default
theorem negs_set {s : List Int} {j : Nat} {v : Int} (hj : j < s.length) (h : s.getD j default < 0) (hv : 0 ≤ v) : negs (s.set j v) + 1 = negs s := by
  induction s generalizing j with
  | nil => simp at hj
  | cons x s ih =>
    cases j with
    | zero =>
      have hx : x < 0 := h
      unfold negs
      rw [List.set_cons_zero, List.countP_cons, List.countP_cons, if_neg (by simp; omega), if_pos (by simpa using hx)]
    | succ j =>
      have := ih (j := j) (by simpa using hj) h
      unfold negs at this ⊢
      rw [List.set_cons_succ, List.countP_cons, List.countP_cons]
      omega
section
variable {n : Nat} {l : List (Nat × Nat)} {f : Nat} (hn : n ≤ 64) (hg : Good n l)
include hg
/-- One more point. -/
theorem BI.j {s : BS} (h : BI n l f s) {x j : Nat} (hx : x < n) (hx0 : 0 ≤ s.out.getD x default) (hj : (x, j) ∈ l) :
    BI n l f (bJ x s j) ∧ (∀ y, 0 ≤ s.out.getD y default → (bJ x s j).out.getD y default = s.out.getD y default) ∧ 0 ≤ (bJ x s j).out.getD j default ∧
    s.todo <+: (bJ x s j).todo ∧ (∀ y, 0 ≤ (bJ x s j).out.getD y default → 0 ≤ s.out.getD y default ∨ y ∈ (bJ x s j).todo) ∧ (bJ x s j).todo.length + negs (bJ x s j).out = s.todo.length + negs s.out := by
  have hjn := (hg _ hj).2
  unfold bJ
  by_cases hc : s.out.getD j default < 0
  · rw [if_pos hc]
    simp only
    have hjl : j < s.out.length := by rw [h.len]; exact hjn
    have hjx : j ≠ x := fun e => by subst e; omega
    have hset : ∀ y, (s.out.set j (s.out.getD x default + 1)).getD y default = if j = y then s.out.getD x default + 1 else s.out.getD y default := fun y => by
      rw [set_getD]
      by_cases e : j = y
      · rw [if_pos ⟨e, by omega⟩, if_pos e]
      · rw [if_neg (fun h => e h.1), if_neg e]
    have hneg := negs_set (v := s.out.getD x default + 1) hjl hc (by omega)
    have hpos : ∀ y, 0 ≤ s.out.getD y default → (s.out.set j (s.out.getD x default + 1)).getD y default = s.out.getD y default := fun y hy => by
      rw [hset, if_neg]; intro e; subst e; omega
    refine ⟨⟨by simp [h.len], fun y hy => ?_, fun y hy => ?_, ?_, by have := h.room; simp only; omega⟩, hpos, ?_, List.prefix_append _ _, fun y hy => ?_, ?_⟩
    · simp only [hset]
      by_cases e : j = y
      · rw [if_pos e]
        subst e
        rcases h.val x hx with h1 | ⟨k, h1, h2, h3⟩
        · omega
        · exact .inr ⟨k + 1, by rw [h1]; rfl, .step h2 hj, by omega⟩
      · rw [if_neg e]
        rcases h.val y hy with h1 | ⟨k, h1, h2, h3⟩
        · exact .inl h1
        · exact .inr ⟨k, h1, h2, by omega⟩
    · rcases List.mem_append.1 hy with hy | hy
      · have := h.todo y hy
        exact ⟨this.1, by simp only; rw [hpos y this.2]; exact this.2⟩
      · rw [List.mem_singleton.1 hy]
        exact ⟨hjn, by simp only; rw [hset, if_pos rfl]; omega⟩
    · simp only; rw [hpos f h.first]; exact h.first
    · rw [hset, if_pos rfl]; omega
    · rw [hset] at hy
      by_cases e : j = y
      · right; simp [e]
      · rw [if_neg e] at hy; exact .inl hy
    · rw [List.length_append, List.length_singleton]; omega
  · rw [if_neg hc]
    exact ⟨h, fun _ _ => rfl, by omega, List.prefix_rfl, fun y hy => .inl hy, rfl⟩
theorem BI.js {x : Nat} (hx : x < n) : ∀ (L : List Nat) (s : BS), BI n l f s → 0 ≤ s.out.getD x default → (∀ j ∈ L, (x, j) ∈ l) →
    BI n l f (L.foldl (bJ x) s) ∧ (∀ y, 0 ≤ s.out.getD y default → (L.foldl (bJ x) s).out.getD y default = s.out.getD y default) ∧ (∀ j ∈ L, 0 ≤ (L.foldl (bJ x) s).out.getD j default) ∧
    s.todo <+: (L.foldl (bJ x) s).todo ∧ (∀ y, 0 ≤ (L.foldl (bJ x) s).out.getD y default → 0 ≤ s.out.getD y default ∨ y ∈ (L.foldl (bJ x) s).todo) ∧ (L.foldl (bJ x) s).todo.length + negs (L.foldl (bJ x) s).out = s.todo.length + negs s.out := by
  intro L
  induction L with
  | nil => intro s h _ _; exact ⟨h, fun _ _ => rfl, by simp, List.prefix_rfl, fun y hy => .inl hy, rfl⟩
  | cons j L ih =>
    intro s h hx0 hL
    obtain ⟨h1, h2, h3, h4, h5, h6⟩ := h.j hg hx hx0 (hL j (by simp))
    obtain ⟨g1, g2, g3, g4, g5, g6⟩ := ih (bJ x s j) h1 (by rw [h2 x hx0]; exact hx0) (fun y hy => hL y (by simp [hy]))
    rw [List.foldl_cons]
    refine ⟨g1, fun y hy => by rw [g2 y (by rw [h2 y hy]; exact hy), h2 y hy], fun y hy => ?_, h4.trans g4, fun y hy => ?_, by omega⟩
    · rcases List.mem_cons.1 hy with rfl | hy
      · rw [g2 y h3]; exact h3
      · exact g3 y hy
    · rcases g5 y hy with h | h
      · rcases h5 y h with h | h
        · exact .inl h
        · exact .inr (g4.subset h)
      · exact .inr h
include hn
theorem BI.step {s : BS} (h : BI n l f s) (hc : BC l s fun _ => False) (ht : s.todo ≠ []) :
    BI n l f (bStep (outS n l) s) ∧ BC l (bStep (outS n l) s) (fun _ => False) ∧ (bStep (outS n l) s).todo.length + negs (bStep (outS n l) s).out + 1 = s.todo.length + negs s.out := by
  obtain ⟨x, t, e⟩ := List.exists_cons_of_ne_nil ht
  have hx := h.todo x (by rw [e]; simp)
  have e0 : s.todo.getD 0 default = x := by rw [e]; rfl
  obtain ⟨h1, h2, h3, h4, h5, h6⟩ := BI.js hg hx.1 (pts ((outS n l).getD x default)) s h hx.2 (fun j hj => (mem_next hn hg).1 hj)
  unfold bStep bIn
  rw [e0]
  generalize (pts ((outS n l).getD x default)).foldl (bJ x) s = s' at h1 h2 h3 h4 h5 h6
  obtain ⟨u, hu⟩ := h4
  rw [e] at hu
  have hd : s'.todo.drop 1 = t ++ u := by rw [← hu]; rfl
  refine ⟨⟨h1.len, h1.val, fun y hy => h1.todo y (List.mem_of_mem_drop hy), h1.first, h1.room⟩, ?_, ?_⟩
  · intro y hy hny j hj
    simp only at hy hny ⊢
    rw [hd] at hny
    by_cases hyx : y = x
    · subst hyx; exact h3 j ((mem_next hn hg).2 hj)
    · rcases h5 y hy with h7 | h7
      · have hyt : y ∉ s.todo := fun hm => by
          rw [e] at hm
          rcases List.mem_cons.1 hm with h8 | h8
          · exact hyx h8
          · exact hny (by simp [h8])
        have := hc y h7 (fun hm => hyt hm) j hj
        rw [h2 j this]; exact this
      · rw [← hu] at h7
        rcases List.mem_append.1 h7 with h8 | h8
        · rcases List.mem_cons.1 h8 with h9 | h9
          · exact absurd h9 hyx
          · exact (hny (by simp [h9])).elim
        · exact (hny (by simp [h8])).elim
  · simp only
    have : s'.todo.length = t.length + 1 + u.length := by rw [← hu]; simp; omega
    rw [hd, List.length_append]
    rw [this] at h6
    omega
end
theorem negs_replicate (n : Nat) : negs (List.replicate n (-1)) = n := by
  unfold negs
  rw [List.countP_replicate, if_pos (by decide)]
theorem BI.start {n : Nat} {l : List (Nat × Nat)} (hgl : Good n l) {f : Nat} (hf : f < n) : BI n l f (bStart n f) ∧ BC l (bStart n f) (fun _ => False) ∧ (bStart n f).todo.length + negs (bStart n f).out = n := by
  have hg : ∀ y, ((List.replicate n (-1 : Int)).set f 0).getD y default = if f = y then 0 else (List.replicate n (-1 : Int)).getD y default := fun y => by
    rw [set_getD]
    by_cases e : f = y
    · rw [if_pos ⟨e, by simp; omega⟩, if_pos e]
    · rw [if_neg (fun h => e h.1), if_neg e]
  have hr : ∀ y, y < n → (List.replicate n (-1 : Int)).getD y default = -1 := fun y hy => by
    rw [List.getD_eq_getElem?_getD, List.getElem?_replicate, if_pos hy]; rfl
  have hneg := negs_set (s := List.replicate n (-1)) (j := f) (v := 0) (by simpa using hf) (by rw [hr f hf]; decide) (by decide)
  rw [negs_replicate] at hneg
  refine ⟨⟨by simp [bStart], fun j hj => ?_, fun x hx => ?_, ?_, ?_⟩, ?_, ?_⟩
  · simp only [bStart]
    rw [hg]
    by_cases e : f = j
    · rw [if_pos e]; subst e; exact .inr ⟨0, rfl, .refl, by omega⟩
    · rw [if_neg e]; exact .inl (hr j hj)
  · have hx : x = f := List.mem_singleton.1 hx
    subst hx
    exact ⟨hf, by simp only [bStart]; rw [hg, if_pos rfl]; decide⟩
  · simp only [bStart]; rw [hg, if_pos rfl]; decide
  · simp only [bStart]; omega
  · intro x hx hnx j hj
    simp only [bStart] at hx hnx
    rw [hg] at hx
    by_cases e : f = x
    · exact (hnx (by simp [e])).elim
    · rw [if_neg e] at hx
      by_cases hxn : x < n
      · rw [hr x hxn] at hx; omega
      · exact absurd (hgl _ hj).1 hxn
  · simp only [bStart, List.length_singleton]; omega
/-- The least point with which one hangs together. -/
def rootP (n : Nat) (l : List (Nat × Nat)) (i : Nat) : Nat := low (rs n (symL l) i)
/-- Both parts. -/
def halfL (n : Nat) (l : List (Nat × Nat)) : List Int := (List.range n).map fun i => (farL n l (rootP n l i)).getD i default % 2
def halfOk (n : Nat) (l : List (Nat × Nat)) : Bool := l.all fun p => !decide ((halfL n l).getD p.1 default = (halfL n l).getD p.2 default)
section
variable {n : Nat} {l : List (Nat × Nat)} (hn : n ≤ 64) (hg : Good n l)
include hn hg
omit hn hg in
theorem PathN.col {c : Nat → Bool} (hc : ∀ a b, (a, b) ∈ l → c a ≠ c b) {a k b : Nat} (h : PathN (symL l) a k b) : c b = (c a != decide (k % 2 = 1)) := by
  induction h with
  | refl => simp
  | step _h0 h1 ih =>
    rename_i k b d
    have e : c b ≠ c d := by
      rcases symL_mem.1 h1 with h | h
      · exact hc _ _ h
      · exact (hc _ _ h).symm
    rcases Nat.mod_two_eq_zero_or_one k with hk | hk
    · have h1 : (k + 1) % 2 = 1 := by omega
      rw [hk] at ih; rw [h1]
      revert e ih; cases c a <;> cases c b <;> cases c d <;> decide
    · have h1 : (k + 1) % 2 = 0 := by omega
      rw [hk] at ih; rw [h1]
      revert e ih; cases c a <;> cases c b <;> cases c d <;> decide
end
end Go.Proofs

namespace Go.Proofs
open Go.Aw
/-- Does a part fall apart without a point? -/
def cutB (n : Nat) (l : List (Nat × Nat)) (i : Nat) : Bool := (pts ((outS n (symL l)).getD i default)).any fun j => !(reach (outS n (symL l)) (dif (2 ^ n - 1) (2 ^ i)) (low ((outS n (symL l)).getD i default))).testBit j
def cutL (n : Nat) (l : List (Nat × Nat)) : List Nat := (List.range n).filter (cutB n l)
end Go.Proofs

namespace Go.Proofs
open Go.Aw
/-- Whom each on the right has, and whom one has asked. -/
structure KS where
  has : List Int
  seen : Nat
def tryL (rec : Nat → KS → Bool × KS) (i : Nat) : List Nat → KS → Bool × KS
  | [], s => (false, s)
  | j :: js, s =>
    if s.seen.testBit j then tryL rec i js s
    else if s.has.getD j default < 0 then (true, ⟨s.has.set j i, s.seen ||| 2 ^ j⟩)
    else match rec (s.has.getD j default).toNat ⟨s.has, s.seen ||| 2 ^ j⟩ with
      | (true, s2) => (true, ⟨s2.has.set j i, s2.seen⟩)
      | (false, s2) => tryL rec i js s2
def tryF (next : List Nat) : Nat → Nat → KS → Bool × KS
  | 0 => fun _ s => (false, s)
  | m + 1 => fun i s => tryL (tryF next m) i (pts (next.getD i default)) s
def kuhnI (next : List Nat) (right : Nat) (has : List Int) (i : Nat) : List Int := (tryF next (right + 1) i ⟨has, 0⟩).2.has
def kuhn (left right : Nat) (l : List (Nat × Nat)) : List Int := (List.range left).foldl (kuhnI (outS (max left 1) l) right) (List.replicate right (-1))
/-- Lines between two sides. -/
def Sides (left right : Nat) (l : List (Nat × Nat)) : Prop := ∀ p ∈ l, p.1 < left ∧ p.2 < right
/-- A way along which one more is paired. -/
inductive Aug (l : List (Nat × Nat)) (has : List Int) : Nat → List Int → Prop
  | free {i j : Nat} (h : (i, j) ∈ l) (hf : has.getD j default < 0) : Aug l has i (has.set j i)
  | via {i j x : Nat} {has' : List Int} (h : (i, j) ∈ l) (hx : has.getD j default = (x : Int)) (ha : Aug l has x has') (hj : has'.getD j default = has.getD j default) : Aug l has i (has'.set j i)
theorem count_set (s : List Int) (j : Nat) (hj : j < s.length) (v y : Int) : (s.set j v).count y + (if s.getD j default = y then 1 else 0) = s.count y + (if v = y then 1 else 0) := by
  induction s generalizing j with
  | nil => simp at hj
  | cons x s ih =>
    cases j with
    | zero => simp only [List.set_cons_zero, List.getD_cons_zero, List.count_cons]; by_cases h1 : x = y <;> by_cases h2 : v = y <;> simp [h1, h2]
    | succ j =>
      have := ih j (by simpa using hj)
      simp only [List.set_cons_succ, List.getD_cons_succ, List.count_cons] at this ⊢
      omega
theorem Aug.len {l : List (Nat × Nat)} {has has' : List Int} {i : Nat} (h : Aug l has i has') : has'.length = has.length := by
  induction h with
  | free => simp
  | via _ _ _ _ ih => simpa using ih
section
variable {left right : Nat} {l : List (Nat × Nat)} (hl : Sides left right l)
include hl
theorem Aug.count {has has' : List Int} {i : Nat} (hh : has.length = right) (hv : ∀ j, j < right → has.getD j default < 0 → has.getD j default = -1) (h : Aug l has i has') (y : Nat) : has'.count (y : Int) = has.count (y : Int) + (if i = y then 1 else 0) := by
  induction h with
  | free h hf =>
    rename_i i j
    have hj := (hl _ h).2
    have := count_set has j (by rw [hh]; exact hj) (i : Int) (y : Int)
    rw [hv j hj hf, if_neg (by omega)] at this
    rw [Nat.add_zero] at this
    rw [this]
    congr 1
    by_cases e : i = y <;> simp [e]
    omega
  | via h hx ha hj ih =>
    rename_i i j x h'
    have hjr := (hl _ h).2
    have := count_set h' j (by rw [ha.len, hh]; exact hjr) (i : Int) (y : Int)
    rw [hj, hx, ih] at this
    have e1 : ((x : Int) = (y : Int)) ↔ x = y := Int.ofNat_inj
    have e2 : ((i : Int) = (y : Int)) ↔ i = y := Int.ofNat_inj
    simp only [e1, e2] at this
    omega
/-- Right ends of lines. -/
structure HasOK (right left : Nat) (l : List (Nat × Nat)) (has : List Int) : Prop where
  len : has.length = right
  val : ∀ j, j < right → has.getD j default = -1 ∨ ∃ x, x < left ∧ has.getD j default = (x : Int) ∧ (x, j) ∈ l
theorem HasOK.set {has : List Int} (h : HasOK right left l has) {i j : Nat} (hij : (i, j) ∈ l) : HasOK right left l (has.set j i) := by
  have hj := (hl _ hij).2
  refine ⟨by simp [h.len], fun k hk => ?_⟩
  rw [getD_set _ _ _ _ (by rw [h.len]; exact hj)]
  split
  · rename_i e; subst e; exact .inr ⟨i, (hl _ hij).1, rfl, hij⟩
  · exact h.val k hk
theorem Aug.ok {has has' : List Int} {i : Nat} (h0 : HasOK right left l has) (h : Aug l has i has') : HasOK right left l has' := by
  induction h with
  | free h hf => exact h0.set hl h
  | via h hx ha hj ih => exact ih.set hl h
omit hl in
theorem HasOK.nat {has : List Int} (h : HasOK right left l has) {j : Nat} (hj : j < right) (hn : ¬ has.getD j default < 0) : ∃ x, x < left ∧ has.getD j default = (x : Int) ∧ (x, j) ∈ l := by
  rcases h.val j hj with h | h
  · omega
  · exact h
omit hl in
theorem HasOK.neg {has : List Int} (h : HasOK right left l has) {j : Nat} (hj : j < right) (hn : has.getD j default < 0) : has.getD j default = -1 := by
  rcases h.val j hj with h | ⟨x, _, h, _⟩
  · exact h
  · omega
/-- How many on the right were not asked. -/
def unseen (right seen : Nat) : Nat := (List.range right).countP fun j => !seen.testBit j
omit hl in
theorem unseen_lt {right seen j : Nat} (hj : j < right) (h : seen.testBit j = false) : unseen right (seen ||| 2 ^ j) < unseen right seen := by
  refine (countP_le (List.range right) (fun x _ hx => ?_)).2 ⟨j, by simpa using hj, ?_, by simp [h]⟩
  · rw [Nat.testBit_or] at hx
    cases h1 : seen.testBit x <;> simp [h1] at hx ⊢
  · rw [Nat.testBit_or, Nat.testBit_two_pow_self]; simp
omit hl in
theorem unseen_le {right s t : Nat} (h : ∀ j, s.testBit j = true → t.testBit j = true) : unseen right t ≤ unseen right s := by
  refine (countP_le (List.range right) (fun x _ hx => ?_)).1
  cases h1 : s.testBit x with
  | true => rw [h x h1] at hx; cases hx
  | false => rfl
/-- What one who asks ends with. -/
structure TrySpec (right : Nat) (l : List (Nat × Nat)) (i : Nat) (js : List Nat) (s : KS) (b : Bool) (s' : KS) : Prop where
  yes : b = true → Aug l s.has i s'.has ∧ ∀ j, s.seen.testBit j = true → s'.has.getD j default = s.has.getD j default
  no : b = false → s'.has = s.has ∧ (∀ j ∈ js, s'.seen.testBit j = true) ∧ ∀ j, s'.seen.testBit j = true → s.seen.testBit j = true ∨ (j < right ∧ ∃ x : Nat, s.has.getD j default = (x : Int) ∧ ∀ k, (x, k) ∈ l → s'.seen.testBit k = true)
  mono : ∀ j, s.seen.testBit j = true → s'.seen.testBit j = true
  lt : s.seen < 2 ^ 64 → s'.seen < 2 ^ 64
theorem tryF_spec (hr : right ≤ 64) (hg : ∀ i j, j ∈ pts ((outS (max left 1) l).getD i default) ↔ (i, j) ∈ l) : ∀ (m i : Nat) (s : KS), HasOK right left l s.has → unseen right s.seen < m →
    TrySpec right l i (pts ((outS (max left 1) l).getD i default)) s (tryF (outS (max left 1) l) m i s).1 (tryF (outS (max left 1) l) m i s).2 := by
  intro m
  induction m with
  | zero => intro i s _ h; omega
  | succ m ih =>
    intro i s hs hu
    show TrySpec right l i _ s (tryL _ i _ s).1 (tryL _ i _ s).2
    have key : ∀ (js : List Nat) (s : KS), (∀ j ∈ js, (i, j) ∈ l) → HasOK right left l s.has → unseen right s.seen < m + 1 → TrySpec right l i js s (tryL (tryF (outS (max left 1) l) m) i js s).1 (tryL (tryF (outS (max left 1) l) m) i js s).2 := by
      intro js
      induction js with
      | nil =>
        intro s _ _ _
        refine ⟨fun h => ?_, fun _ => ⟨rfl, fun j hj => ?_, fun j hj => .inl hj⟩, fun j hj => hj, fun h => h⟩
        · cases h
        · cases hj
      | cons j js ihj =>
        intro s hjs hs hu
        have hij := hjs j (by simp)
        have hj : j < right := (hl _ hij).2
        unfold tryL
        by_cases hse : s.seen.testBit j = true
        · rw [if_pos hse]
          have h := ihj s (fun k hk => hjs k (by simp [hk])) hs hu
          refine ⟨h.yes, fun hb => ?_, h.mono, h.lt⟩
          obtain ⟨h1, h2, h3⟩ := h.no hb
          refine ⟨h1, fun k hk => ?_, h3⟩
          rcases List.mem_cons.1 hk with rfl | hk
          · exact h.mono _ hse
          · exact h2 k hk
        · rw [if_neg hse]
          have hsf : s.seen.testBit j = false := by simpa using hse
          have hmono1 : ∀ k, s.seen.testBit k = true → (s.seen ||| 2 ^ j).testBit k = true := fun k hk => by rw [Nat.testBit_or, hk]; rfl
          have hlt1 : s.seen < 2 ^ 64 → (s.seen ||| 2 ^ j) < 2 ^ 64 := fun h => Nat.or_lt_two_pow h (Nat.pow_lt_pow_right (by omega) (by omega))
          have hne : ∀ k, s.seen.testBit k = true → k ≠ j := fun k hk e => by subst e; rw [hsf] at hk; cases hk
          by_cases hf : s.has.getD j default < 0
          · rw [if_pos hf]
            refine ⟨fun _ => ⟨.free hij hf, fun k hk => ?_⟩, fun h => ?_, hmono1, hlt1⟩
            · show (s.has.set j (i : Int)).getD k default = _
              rw [getD_set _ _ _ _ (by rw [hs.len]; exact hj), if_neg (hne k hk)]
            · cases h
          · rw [if_neg hf]
            obtain ⟨x, hx, hxe, _⟩ := hs.nat hj hf
            have hu1 := unseen_lt hj hsf
            have h := ih x ⟨s.has, s.seen ||| 2 ^ j⟩ hs (by show unseen right (s.seen ||| 2 ^ j) < m; omega)
            rw [hxe, Int.toNat_natCast]
            generalize hrr : tryF (outS (max left 1) l) m x ⟨s.has, s.seen ||| 2 ^ j⟩ = r at h
            obtain ⟨b, s2⟩ := r
            cases b with
            | true =>
              obtain ⟨h1, h2⟩ := h.yes rfl
              have hj2 : s2.has.getD j default = s.has.getD j default := h2 j (by rw [Nat.testBit_or, Nat.testBit_two_pow_self]; simp)
              refine ⟨fun _ => ⟨.via hij hxe h1 hj2, fun k hk => ?_⟩, fun h => ?_, fun k hk => h.mono k (hmono1 k hk), fun h' => h.lt (hlt1 h')⟩
              · show (s2.has.set j (i : Int)).getD k default = _
                rw [getD_set _ _ _ _ (by rw [h1.len]; show j < s.has.length; rw [hs.len]; exact hj), if_neg (hne k hk)]
                exact h2 k (hmono1 k hk)
              · cases h
            | false =>
              obtain ⟨h1, h2, h3⟩ := h.no rfl
              have hs2 : HasOK right left l s2.has := by rw [h1]; exact hs
              have h' := ihj s2 (fun k hk => hjs k (by simp [hk])) hs2 (by
                have h9 : unseen right s2.seen ≤ unseen right (s.seen ||| 2 ^ j) := unseen_le (right := right) h.mono
                omega)
              simp only at h1
              refine ⟨fun hb => ?_, fun hb => ?_, fun k hk => h'.mono k (h.mono k (hmono1 k hk)), fun hh => h'.lt (h.lt (hlt1 hh))⟩
              · obtain ⟨h4, h5⟩ := h'.yes hb
                rw [h1] at h4 h5
                exact ⟨h4, fun k hk => h5 k (h.mono k (hmono1 k hk))⟩
              · obtain ⟨h4, h5, h6⟩ := h'.no hb
                refine ⟨h4.trans h1, fun k hk => ?_, fun k hk => ?_⟩
                · rcases List.mem_cons.1 hk with rfl | hk
                  · exact h'.mono _ (h.mono _ (by show (s.seen ||| 2 ^ k).testBit k = true; rw [Nat.testBit_or, Nat.testBit_two_pow_self]; simp))
                  · exact h5 k hk
                · rcases h6 k hk with h7 | ⟨h0, y, h7, h8⟩
                  · rcases h3 k h7 with h9 | ⟨h0, y, h9, h10⟩
                    · simp only at h9
                      rw [Nat.testBit_or, Bool.or_eq_true, two_pow_bit] at h9
                      rcases h9 with h9 | rfl
                      · exact .inl h9
                      · refine .inr ⟨hj, x, hxe, fun z hz => h'.mono z (h2 z ((hg x z).2 hz))⟩
                    · exact .inr ⟨h0, y, h9, fun z hz => h'.mono z (h10 z hz)⟩
                  · exact .inr ⟨h0, y, by rw [h1] at h7; exact h7, h8⟩
    exact key _ s (fun j hj => (hg i j).1 hj) hs hu
/-- What holds of pairs: those who failed, and what is closed. -/
structure KI (left right : Nat) (l : List (Nat × Nat)) (k : Nat) (has : List Int) (F D : Nat → Prop) : Prop where
  ok : HasOK right left l has
  cnt : ∀ y : Nat, (y < k ∧ ¬ F y → has.count (y : Int) = 1) ∧ (¬ (y < k ∧ ¬ F y) → has.count (y : Int) = 0)
  fk : ∀ f, F f → f < k
  fD : ∀ f, F f → ∀ j, (f, j) ∈ l → D j
  dD : ∀ j, D j → j < right ∧ ∃ x : Nat, has.getD j default = (x : Int) ∧ ∀ k, (x, k) ∈ l → D k
omit hl in
theorem Aug.dead {D : Nat → Prop} {has : List Int} (hD : ∀ j, D j → ∃ x : Nat, has.getD j default = (x : Int) ∧ ∀ k, (x, k) ∈ l → D k) {i : Nat} {has' : List Int} (h : Aug l has i has') :
    ¬ (∀ j, (i, j) ∈ l → D j) ∧ ∀ j, D j → has'.getD j default = has.getD j default := by
  induction h with
  | free h hf =>
    rename_i i j
    have hj : ¬ D j := fun hd => by
      obtain ⟨x, hx, _⟩ := hD j hd
      omega
    refine ⟨fun h' => hj (h' j h), fun k hk => ?_⟩
    rw [set_getD, if_neg]
    rintro ⟨rfl, _⟩
    exact hj hk
  | via h hx ha hje ih =>
    rename_i i j x h'
    have hj : ¬ D j := fun hd => by
      obtain ⟨y, hy, hy2⟩ := hD j hd
      have : y = x := by omega
      subst this
      exact ih.1 hy2
    refine ⟨fun h' => hj (h' j h), fun k hk => ?_⟩
    rw [set_getD, if_neg]
    · exact ih.2 k hk
    · rintro ⟨rfl, _⟩
      exact hj hk
theorem KI.step (hr : right ≤ 64) (hg : ∀ i j, j ∈ pts ((outS (max left 1) l).getD i default) ↔ (i, j) ∈ l) {k : Nat} {has : List Int} {F D : Nat → Prop} (h : KI left right l k has F D) : ∃ F' D', KI left right l (k + 1) (kuhnI (outS (max left 1) l) right has k) F' D' := by
  have hu : unseen right 0 < right + 1 := by
    have := List.countP_le_length (p := fun j => !(0 : Nat).testBit j) (l := List.range right)
    simp only [List.length_range] at this
    unfold unseen; omega
  have ht := tryF_spec hl hr hg (right + 1) k ⟨has, 0⟩ h.ok hu
  unfold kuhnI
  generalize tryF (outS (max left 1) l) (right + 1) k ⟨has, 0⟩ = r at ht
  obtain ⟨b, s'⟩ := r
  cases b with
  | true =>
    obtain ⟨h1, _⟩ := ht.yes rfl
    simp only at h1
    have hc := h1.count hl h.ok.len (fun j hj hn => h.ok.neg hj hn)
    have hd := h1.dead (D := D) (fun j hj => (h.dD j hj).2)
    have hFk : ¬ F k := fun hf => by have := h.fk k hf; omega
    refine ⟨F, D, h1.ok hl h.ok, fun y => ?_, fun f hf => by have := h.fk f hf; omega, h.fD, fun j hj => ⟨(h.dD j hj).1, ?_⟩⟩
    · have hy := h.cnt y
      simp only
      rw [hc y]
      constructor
      · rintro ⟨h2, h3⟩
        by_cases e : k = y
        · subst e; rw [hy.2 (fun h' => by omega), if_pos rfl]
        · rw [hy.1 ⟨by omega, h3⟩, if_neg e]
      · intro h2
        have e : ¬ k = y := fun e => h2 (by subst e; exact ⟨by omega, hFk⟩)
        rw [if_neg e, hy.2 (fun h' => h2 ⟨by omega, h'.2⟩)]
    · obtain ⟨x, hx, hx2⟩ := (h.dD j hj).2
      exact ⟨x, by rw [hd.2 j hj]; exact hx, hx2⟩
  | false =>
    obtain ⟨h1, h2, h3⟩ := ht.no rfl
    simp only at h1
    refine ⟨fun f => F f ∨ f = k, fun j => D j ∨ s'.seen.testBit j = true, ?_⟩
    simp only
    rw [h1]
    refine ⟨h.ok, fun y => ?_, fun f hf => ?_, fun f hf j hj => ?_, fun j hj => ?_⟩
    · have hy := h.cnt y
      constructor
      · rintro ⟨h4, h5⟩
        exact hy.1 ⟨by have : y ≠ k := fun e => h5 (.inr e); omega, fun h' => h5 (.inl h')⟩
      · intro h4
        refine hy.2 fun h5 => h4 ⟨by omega, fun h6 => h6.elim h5.2 (fun e => by omega)⟩
    · rcases hf with hf | rfl
      · have := h.fk f hf; omega
      · omega
    · rcases hf with hf | rfl
      · exact .inl (h.fD f hf j hj)
      · exact .inr (h2 j ((hg _ j).2 hj))
    · rcases hj with hj | hj
      · obtain ⟨h4, x, h5, h6⟩ := h.dD j hj
        exact ⟨h4, x, h5, fun z hz => .inl (h6 z hz)⟩
      · rcases h3 j hj with h4 | ⟨h0, x, h4, h5⟩
        · simp at h4
        · exact ⟨h0, x, h4, fun z hz => .inr (h5 z hz)⟩
end
end Go.Proofs

namespace Go.Proofs
open Go.Aw
/-- Pairs of lines, nobody in two. -/
structure Mtch (l M : List (Nat × Nat)) : Prop where
  sub : ∀ p ∈ M, p ∈ l
  fst : (M.map Prod.fst).Nodup
  snd : (M.map Prod.snd).Nodup
/-- All lines have one of them. -/
def Cov (l : List (Nat × Nat)) (A B : List Nat) : Prop := ∀ p ∈ l, p.1 ∈ A ∨ p.2 ∈ B
theorem nodup_map_filter {α β : Type} {f : α → β} {l : List α} (h : (l.map f).Nodup) (p : α → Bool) : ((l.filter p).map f).Nodup := h.sublist (List.Sublist.map f List.filter_sublist)
theorem weak {M : List (Nat × Nat)} {A B : List Nat} (h1 : (M.map Prod.fst).Nodup) (h2 : (M.map Prod.snd).Nodup) (h : Cov M A B) : M.length ≤ A.length + B.length := by
  have e : M.length = (M.filter fun p => decide (p.1 ∈ A)).length + (M.filter fun p => !decide (p.1 ∈ A)).length := by
    have := List.length_eq_countP_add_countP (fun p : Nat × Nat => decide (p.1 ∈ A)) (l := M)
    rw [List.countP_eq_length_filter, List.countP_eq_length_filter] at this
    rw [this]; congr 2
    simp
  have a := pig (M := A) (nodup_map_filter h1 fun p => decide (p.1 ∈ A)) (fun x hx => by
    obtain ⟨p, hp, rfl⟩ := List.mem_map.1 hx
    simpa using (List.mem_filter.1 hp).2)
  have b := pig (M := B) (nodup_map_filter h2 fun p => !decide (p.1 ∈ A)) (fun x hx => by
    obtain ⟨p, hp, rfl⟩ := List.mem_map.1 hx
    obtain ⟨h3, h4⟩ := List.mem_filter.1 hp
    have h5 : p.1 ∉ A := by simpa using h4
    exact (h p h3).resolve_left h5)
  rw [List.length_map] at a b
  omega
theorem Mtch.weak {l M : List (Nat × Nat)} {A B : List Nat} (h : Mtch l M) (hc : Cov l A B) : M.length ≤ A.length + B.length := Go.Proofs.weak h.fst h.snd fun p hp => hc p (h.sub p hp)
/-- As many pairs as there are at most. -/
def MN (l : List (Nat × Nat)) (m : Nat) : Prop := (∃ M, Mtch l M ∧ M.length = m) ∧ ∃ A B, Cov l A B ∧ A.length + B.length = m
theorem MN.le {l l' : List (Nat × Nat)} {m m' : Nat} (h : MN l m) (h' : MN l' m') (hs : ∀ p ∈ l, p ∈ l') : m ≤ m' := by
  obtain ⟨⟨M, h1, rfl⟩, _⟩ := h
  obtain ⟨_, A, B, h2, rfl⟩ := h'
  exact h1.weak fun p hp => h2 p (hs p hp)
theorem MN.flip {l l' : List (Nat × Nat)} {m : Nat} (h : MN l m) (hf : ∀ a b, (a, b) ∈ l' ↔ (b, a) ∈ l) : MN l' m := by
  obtain ⟨⟨M, h1, rfl⟩, A, B, h2, e⟩ := h
  refine ⟨⟨M.map Go.Proofs.flip, ⟨fun p hp => ?_, ?_, ?_⟩, by simp⟩, B, A, fun p hp => ?_, by omega⟩
  · obtain ⟨q, hq, rfl⟩ := List.mem_map.1 hp
    exact (hf _ _).2 (h1.sub q hq)
  · rw [List.map_map]; exact h1.snd
  · rw [List.map_map]; exact h1.fst
  · exact (h2 _ ((hf p.1 p.2).1 hp)).symm
theorem MN.more {l l' : List (Nat × Nat)} {m m' : Nat} (h : MN l m) (h' : MN l' m') {e : Nat × Nat} (hs : ∀ p, p ∈ l' ↔ p ∈ l ∨ p = e) : m' = m ∨ m' = m + 1 := by
  have h1 := h.le h' fun p hp => (hs p).2 (.inl hp)
  obtain ⟨_, A, B, h2, rfl⟩ := h
  obtain ⟨⟨M, h3, rfl⟩, _⟩ := h'
  have := h3.weak (A := e.1 :: A) (B := B) fun p hp => by
    rcases (hs p).1 hp with h4 | rfl
    · exact (h2 p h4).imp (fun h => by simp [h]) id
    · exact .inl (by simp)
  simp only [List.length_cons] at this
  omega
/-- Those on the right who have one. -/
def metR (has : List Int) : List Nat := (List.range has.length).filter fun j => decide (0 ≤ has.getD j default)
def mostK (has : List Int) : Nat := (metR has).length
def pairL (has : List Int) : List (Nat × Nat) := (metR has).map fun j => ((has.getD j default).toNat, j)
theorem mem_metR {has : List Int} {j : Nat} : j ∈ metR has ↔ j < has.length ∧ 0 ≤ has.getD j default := by simp [metR]
section
variable {left right : Nat} {l : List (Nat × Nat)} (hl : Sides left right l)
theorem outS_sides (hl : Sides left right l) (hr : right ≤ 64) (i j : Nat) : j ∈ pts ((outS (max left 1) l).getD i default) ↔ (i, j) ∈ l := by
  rw [pts_mem, outS_bit]
  exact ⟨fun h => h.2.2, fun h => by have := hl _ h; exact ⟨by omega, by omega, h⟩⟩
include hl in
theorem kuhn_spec (hr : right ≤ 64) : ∃ F D, KI left right l left (kuhn left right l) F D := by
  have : ∀ k, ∃ F D, KI left right l k ((List.range k).foldl (kuhnI (outS (max left 1) l) right) (List.replicate right (-1))) F D := by
    intro k
    induction k with
    | zero =>
      refine ⟨fun _ => False, fun _ => False, ⟨⟨by simp, fun j hj => .inl ?_⟩, fun y => ⟨fun h => by omega, fun _ => ?_⟩, fun f hf => hf.elim, fun f hf => hf.elim, fun j hj => hj.elim⟩⟩
      · show (List.replicate right (-1 : Int)).getD j default = -1
        rw [List.getD_eq_getElem?_getD, List.getElem?_replicate, if_pos hj]; rfl
      · show (List.replicate right (-1 : Int)).count (y : Int) = 0
        rw [List.count_eq_zero]
        intro h
        have := (List.mem_replicate.1 h).2
        omega
    | succ k ih =>
      obtain ⟨F, D, h⟩ := ih
      rw [range_foldl]
      exact h.step hl hr (outS_sides hl hr)
  exact this left
theorem count_two {s : List Int} {j k : Nat} {y : Int} (hjk : j ≠ k) (hj : s[j]? = some y) (hk : s[k]? = some y) : 2 ≤ s.count y := by
  induction s generalizing j k with
  | nil => simp at hj
  | cons x s ih =>
    cases j with
    | zero =>
      cases k with
      | zero => exact absurd rfl hjk
      | succ k =>
        simp at hj hk
        have : y ∈ s := List.mem_of_getElem? hk
        have := List.count_pos_iff.2 this
        rw [List.count_cons, hj]; simp; omega
    | succ j =>
      cases k with
      | zero =>
        simp at hj hk
        have : y ∈ s := List.mem_of_getElem? hj
        have := List.count_pos_iff.2 this
        rw [List.count_cons, hk]; simp; omega
      | succ k =>
        have := ih (j := j) (k := k) (by omega) (by simpa using hj) (by simpa using hk)
        rw [List.count_cons]; omega
theorem get_some {s : List Int} {j : Nat} (hj : j < s.length) : s[j]? = some (s.getD j default) := by
  rw [List.getD_eq_getElem?_getD, List.getElem?_eq_getElem hj]; rfl
/-- What holds of pairs in the end. -/
structure KE (left right : Nat) (l : List (Nat × Nat)) (has : List Int) : Prop where
  ok : HasOK right left l has
  inj : ∀ j k (y : Nat), j < right → k < right → has.getD j default = (y : Int) → has.getD k default = (y : Int) → j = k
  free : ∃ D : Nat → Prop, (∀ j, D j → j < right ∧ ∃ x : Nat, has.getD j default = (x : Int) ∧ ∀ k, (x, k) ∈ l → D k) ∧ ∀ f, f < left → (f : Int) ∉ has → ∀ j, (f, j) ∈ l → D j
include hl in
theorem kuhn_end (hr : right ≤ 64) : KE left right l (kuhn left right l) := by
  obtain ⟨F, D, h⟩ := kuhn_spec hl hr
  refine ⟨h.ok, fun j k y hj hk h1 h2 => ?_, D, h.dD, fun f hf hno j hj => ?_⟩
  · refine Classical.byContradiction fun hne => ?_
    have h3 := count_two hne (by rw [get_some (by rw [h.ok.len]; exact hj), h1]) (by rw [get_some (by rw [h.ok.len]; exact hk), h2])
    have h4 := h.cnt y
    by_cases h5 : y < left ∧ ¬ F y
    · have := h4.1 h5; omega
    · have := h4.2 h5; omega
  · refine h.fD f (Classical.byContradiction fun hF => ?_) j hj
    have := (h.cnt f).1 ⟨hf, hF⟩
    exact hno (List.count_pos_iff.1 (by omega))
theorem HasOK.mem_iff {has : List Int} (h : HasOK right left l has) {y : Nat} : (y : Int) ∈ has ↔ ∃ j, j < right ∧ has.getD j default = (y : Int) := by
  rw [List.mem_iff_getElem]
  constructor
  · rintro ⟨j, hj, e⟩
    refine ⟨j, by rw [← h.len]; exact hj, ?_⟩
    rw [List.getD_eq_getElem?_getD, List.getElem?_eq_getElem hj, Option.getD_some, e]
  · rintro ⟨j, hj, e⟩
    have hj' : j < has.length := by rw [h.len]; exact hj
    refine ⟨j, hj', ?_⟩
    rw [List.getD_eq_getElem?_getD, List.getElem?_eq_getElem hj', Option.getD_some] at e
    exact e
theorem KE.mtch {has : List Int} (h : KE left right l has) : Mtch l (pairL has) ∧ (pairL has).length = mostK has := by
  refine ⟨⟨fun p hp => ?_, ?_, ?_⟩, by simp [pairL, mostK]⟩
  · obtain ⟨j, hj, rfl⟩ := List.mem_map.1 hp
    obtain ⟨h1, h2⟩ := mem_metR.1 hj
    obtain ⟨x, _, e, h3⟩ := h.ok.nat (by rw [← h.ok.len]; exact h1) (by omega)
    simp only [e, Int.toNat_natCast]; exact h3
  · unfold pairL
    rw [List.map_map, List.Nodup, List.pairwise_map]
    refine ((List.Pairwise.filter _ List.nodup_range : (metR has).Nodup)).imp_of_mem fun {a b} ha hb hne e => hne ?_
    obtain ⟨a1, a2⟩ := mem_metR.1 ha
    obtain ⟨b1, b2⟩ := mem_metR.1 hb
    rw [h.ok.len] at a1 b1
    have e' : (has.getD a default).toNat = (has.getD b default).toNat := e
    exact h.inj a b (has.getD a default).toNat a1 b1 (by omega) (by omega)
  · unfold pairL
    rw [List.map_map]
    have : (Prod.snd ∘ fun j => ((has.getD j default).toNat, j)) = id := rfl
    rw [this, List.map_id]
    exact List.Pairwise.filter _ List.nodup_range
/-! ### The cover -/
structure CS where
  met : Nat
  over : Nat
  todo : List Nat
def cJ (has : List Int) (s : CS) (j : Nat) : CS :=
  if has.getD j default < 0 then ⟨s.met, s.over ||| 2 ^ j, s.todo⟩
  else if s.met.testBit (has.getD j default).toNat then ⟨s.met, s.over ||| 2 ^ j, s.todo⟩
  else ⟨s.met ||| 2 ^ (has.getD j default).toNat, s.over ||| 2 ^ j, s.todo ++ [(has.getD j default).toNat]⟩
def cIn (next : List Nat) (has : List Int) (s : CS) (x : Nat) : CS := (pts (dif (next.getD x default) s.over)).foldl (cJ has) s
def cStep (next : List Nat) (has : List Int) (s : CS) : CS := ⟨(cIn next has s (s.todo.getD 0 default)).met, (cIn next has s (s.todo.getD 0 default)).over, (cIn next has s (s.todo.getD 0 default)).todo.drop 1⟩
def cRun (next : List Nat) (has : List Int) : Nat → CS → CS
  | 0, s => s
  | m + 1, s => if s.todo = [] then s else cRun next has m (cStep next has s)
def met0 (left : Nat) (has : List Int) : Nat := has.foldl (fun m h => if h < 0 then m else dif m (2 ^ h.toNat)) (2 ^ left - 1)
def cStart (left : Nat) (has : List Int) : CS := ⟨met0 left has, 0, pts (met0 left has)⟩
def coverS (left right : Nat) (l : List (Nat × Nat)) : CS := cRun (outS (max left 1) l) (kuhn left right l) left (cStart left (kuhn left right l))
def coverA (left right : Nat) (l : List (Nat × Nat)) : List Nat := pts (dif (2 ^ left - 1) (coverS left right l).met)
def coverB (left right : Nat) (l : List (Nat × Nat)) : List Nat := pts (coverS left right l).over
theorem met0_bit (left : Nat) (has : List Int) (i : Nat) : (met0 left has).testBit i = true ↔ i < left ∧ (i : Int) ∉ has := by
  unfold met0
  have : ∀ u : Nat, (has.foldl (fun m h => if h < 0 then m else dif m (2 ^ h.toNat)) u).testBit i = true ↔ u.testBit i = true ∧ (i : Int) ∉ has := by
    induction has with
    | nil => intro u; simp
    | cons h has ih =>
      intro u
      rw [List.foldl_cons, ih]
      split
      · rename_i hn
        have : (i : Int) ≠ h := by omega
        simp [this]
      · rename_i hn
        have e : (dif u (2 ^ h.toNat)).testBit i = true ↔ u.testBit i = true ∧ (i : Int) ≠ h := by
          rw [dif_bit, Bool.and_eq_true, Bool.not_eq_true', ← Bool.not_eq_true, two_pow_bit]
          exact and_congr_right fun _ => by omega
        rw [e, List.mem_cons]
        constructor
        · rintro ⟨⟨a, b⟩, c⟩; exact ⟨a, fun h => h.elim b c⟩
        · rintro ⟨a, b⟩; exact ⟨⟨a, fun h => b (.inl h)⟩, fun h => b (.inr h)⟩
  rw [this, below_bit]
/-- Closed: by lines and pairs in turn. -/
def AltC (left : Nat) (l : List (Nat × Nat)) (has : List Int) (S : Nat → Prop) : Prop := (∀ x, x < left → (x : Int) ∉ has → S x) ∧ ∀ x j (y : Nat), S x → (x, j) ∈ l → has.getD j default = (y : Int) → S y
structure CI (left right : Nat) (l : List (Nat × Nat)) (has : List Int) (s : CS) : Prop where
  free : ∀ x, x < left → (x : Int) ∉ has → s.met.testBit x = true
  metLt : ∀ x, s.met.testBit x = true → x < left
  overLt : ∀ j, s.over.testBit j = true → j < right
  todo : ∀ x ∈ s.todo, s.met.testBit x = true
  back : ∀ j, s.over.testBit j = true → ∀ x : Nat, has.getD j default = (x : Int) → s.met.testBit x = true
  why : ∀ x, s.met.testBit x = true → (x : Int) ∉ has ∨ ∃ j, s.over.testBit j = true ∧ has.getD j default = (x : Int)
  alt : ∀ S, AltC left l has S → (∀ x, s.met.testBit x = true → S x) ∧ ∀ j, s.over.testBit j = true → ∃ x, S x ∧ (x, j) ∈ l
  cnt : cnt s.met ≤ left
theorem cnt_bit {s x : Nat} (hx : x < 64) (h : s.testBit x = false) : cnt (s ||| 2 ^ x) = cnt s + 1 := by
  have := cnt_add s (2 ^ x) (fun j hj => by rw [two_pow_bit] at hj; subst hj; exact h)
  have e : pts (2 ^ x) = [x] := by
    have h1 : (pts (2 ^ x)).Nodup := List.Pairwise.filter _ List.nodup_range
    have h2 : ∀ y, y ∈ pts (2 ^ x) ↔ y = x := fun y => by rw [pts_mem, two_pow_bit]; omega
    cases hp : pts (2 ^ x) with
    | nil => have := (h2 x).2 rfl; rw [hp] at this; cases this
    | cons a t =>
      have ha : a = x := (h2 a).1 (by rw [hp]; simp)
      subst ha
      cases t with
      | nil => rfl
      | cons b t =>
        have hb : b = a := (h2 b).1 (by rw [hp]; simp)
        subst hb
        rw [hp] at h1
        simp at h1
  rw [e] at this
  simpa [addAll] using this
theorem cnt_lt {s n : Nat} (h : ∀ i, s.testBit i = true → i < n) : cnt s ≤ n := by
  unfold cnt
  rw [List.countP_eq_length_filter]
  have := pig (L := (List.range 64).filter fun i => s.testBit i) (M := List.range n) (List.Pairwise.filter _ List.nodup_range) (fun x hx => by simpa using h x (List.mem_filter.1 hx).2)
  simpa using this
include hl in
theorem CI.cJ {has : List Int} (hleft : left ≤ 64) (hk : HasOK right left l has) {s : CS} (h : CI left right l has s) {x j : Nat} (hx : s.met.testBit x = true) (hj : (x, j) ∈ l) :
    CI left right l has (Go.Proofs.cJ has s j) ∧ (Go.Proofs.cJ has s j).todo.length + Go.Aw.cnt s.met = s.todo.length + Go.Aw.cnt (Go.Proofs.cJ has s j).met ∧ s.todo <+: (Go.Proofs.cJ has s j).todo ∧ (∀ y, s.met.testBit y = true → (Go.Proofs.cJ has s j).met.testBit y = true) ∧
      (∀ y, (Go.Proofs.cJ has s j).over.testBit y = true ↔ s.over.testBit y = true ∨ y = j) ∧ (∀ y, (Go.Proofs.cJ has s j).met.testBit y = true → s.met.testBit y = true ∨ y ∈ (Go.Proofs.cJ has s j).todo) := by
  have hjr : j < right := (hl _ hj).2
  have hob : ∀ y, (s.over ||| 2 ^ j).testBit y = true ↔ s.over.testBit y = true ∨ y = j := fun y => by
    rw [Nat.testBit_or, Bool.or_eq_true, two_pow_bit]
    exact or_congr_right ⟨fun h => h.symm, fun h => h.symm⟩
  have halt : ∀ S, AltC left l has S → ∀ y, (s.over ||| 2 ^ j).testBit y = true → ∃ x, S x ∧ (x, y) ∈ l := fun S hS y hy => by
    rcases (hob y).1 hy with h1 | rfl
    · exact (h.alt S hS).2 y h1
    · exact ⟨x, (h.alt S hS).1 x hx, hj⟩
  have hover : ∀ y, (s.over ||| 2 ^ j).testBit y = true → y < right := fun y hy => by
    rcases (hob y).1 hy with h1 | rfl
    · exact h.overLt y h1
    · exact hjr
  unfold Go.Proofs.cJ
  split
  · rename_i hn
    refine ⟨⟨h.free, h.metLt, hover, h.todo, fun y hy z hz => ?_, fun y hy => ?_, fun S hS => ⟨(h.alt S hS).1, halt S hS⟩, h.cnt⟩, rfl, List.prefix_refl _, fun y hy => hy, hob, fun y hy => .inl hy⟩
    · rcases (hob y).1 hy with h1 | rfl
      · exact h.back y h1 z hz
      · omega
    · exact (h.why y hy).imp id fun ⟨z, h1, h2⟩ => ⟨z, (hob z).2 (.inl h1), h2⟩
  · rename_i hn
    obtain ⟨w, hw, hwe, hwl⟩ := hk.nat hjr hn
    rw [hwe, Int.toNat_natCast]
    split
    · rename_i hm
      refine ⟨⟨h.free, h.metLt, hover, h.todo, fun y hy z hz => ?_, fun y hy => ?_, fun S hS => ⟨(h.alt S hS).1, halt S hS⟩, h.cnt⟩, rfl, List.prefix_refl _, fun y hy => hy, hob, fun y hy => .inl hy⟩
      · rcases (hob y).1 hy with h1 | rfl
        · exact h.back y h1 z hz
        · have : z = w := by omega
          subst this; exact hm
      · exact (h.why y hy).imp id fun ⟨z, h1, h2⟩ => ⟨z, (hob z).2 (.inl h1), h2⟩
    · rename_i hm
      have hm' : s.met.testBit w = false := by simpa using hm
      have hmb : ∀ y, (s.met ||| 2 ^ w).testBit y = true ↔ s.met.testBit y = true ∨ y = w := fun y => by
        rw [Nat.testBit_or, Bool.or_eq_true, two_pow_bit]
        exact or_congr_right ⟨fun h => h.symm, fun h => h.symm⟩
      have hc := cnt_bit (x := w) (by omega) hm'
      have hmlt : ∀ y, (s.met ||| 2 ^ w).testBit y = true → y < left := fun y hy => by
        rcases (hmb y).1 hy with h1 | rfl
        · exact h.metLt y h1
        · exact hw
      refine ⟨⟨fun y h1 h2 => (hmb y).2 (.inl (h.free y h1 h2)), hmlt, hover, fun y hy => ?_, fun y hy z hz => ?_, fun y hy => ?_, fun S hS => ⟨fun y hy => ?_, halt S hS⟩, cnt_lt hmlt⟩, ?_, List.prefix_append _ _, fun y hy => (hmb y).2 (.inl hy), hob, fun y hy => ?_⟩
      · rcases List.mem_append.1 hy with h1 | h1
        · exact (hmb y).2 (.inl (h.todo y h1))
        · exact (hmb y).2 (.inr (by simpa using h1))
      · rcases (hob y).1 hy with h1 | rfl
        · exact (hmb z).2 (.inl (h.back y h1 z hz))
        · exact (hmb z).2 (.inr (by omega))
      · rcases (hmb y).1 hy with h1 | rfl
        · exact (h.why y h1).imp id fun ⟨z, h1, h2⟩ => ⟨z, (hob z).2 (.inl h1), h2⟩
        · exact .inr ⟨j, (hob j).2 (.inr rfl), hwe⟩
      · rcases (hmb y).1 hy with h1 | rfl
        · exact (h.alt S hS).1 y h1
        · exact hS.2 x j y ((h.alt S hS).1 x hx) hj hwe
      · simp only [List.length_append, List.length_cons, List.length_nil]; omega
      · rcases (hmb y).1 hy with h1 | rfl
        · exact .inl h1
        · exact .inr (by simp)

include hl in
theorem CI.cIn {has : List Int} (hleft : left ≤ 64) (hk : HasOK right left l has) {x : Nat} : ∀ (L : List Nat) {s : CS}, CI left right l has s → s.met.testBit x = true → (∀ j ∈ L, (x, j) ∈ l) →
    CI left right l has (L.foldl (Go.Proofs.cJ has) s) ∧ (L.foldl (Go.Proofs.cJ has) s).todo.length + Go.Aw.cnt s.met = s.todo.length + Go.Aw.cnt (L.foldl (Go.Proofs.cJ has) s).met ∧ s.todo <+: (L.foldl (Go.Proofs.cJ has) s).todo ∧
      (∀ y, s.met.testBit y = true → (L.foldl (Go.Proofs.cJ has) s).met.testBit y = true) ∧ (∀ y, (L.foldl (Go.Proofs.cJ has) s).over.testBit y = true ↔ s.over.testBit y = true ∨ y ∈ L) ∧
      (∀ y, (L.foldl (Go.Proofs.cJ has) s).met.testBit y = true → s.met.testBit y = true ∨ y ∈ (L.foldl (Go.Proofs.cJ has) s).todo) := by
  intro L
  induction L with
  | nil => intro s h _ _; exact ⟨h, rfl, List.prefix_refl _, fun y hy => hy, fun y => by simp, fun y hy => .inl hy⟩
  | cons j L ih =>
    intro s h hx hL
    obtain ⟨h1, h2, h3, h4, h5, h6⟩ := h.cJ hl hleft hk hx (hL j (by simp))
    obtain ⟨g1, g2, g3, g4, g5, g6⟩ := ih h1 (h4 x hx) (fun k hk => hL k (by simp [hk]))
    rw [List.foldl_cons]
    refine ⟨g1, by omega, h3.trans g3, fun y hy => g4 y (h4 y hy), fun y => ?_, fun y hy => ?_⟩
    · rw [g5, h5, List.mem_cons, or_assoc]
    · rcases g6 y hy with h7 | h7
      · rcases h6 y h7 with h8 | h8
        · exact .inl h8
        · exact .inr (g3.subset h8)
      · exact .inr h7
/-- Whom one has to look at no more has all beside it. -/
def Cl (l : List (Nat × Nat)) (s : CS) : Prop := ∀ x, s.met.testBit x = true → x ∉ s.todo → ∀ j, (x, j) ∈ l → s.over.testBit j = true
include hl in
theorem CI.cStep {has : List Int} (hleft : left ≤ 64) (hr : right ≤ 64) (hk : HasOK right left l has) {s : CS} (h : CI left right l has s) (hc : Cl l s) (ht : s.todo ≠ []) :
    CI left right l has (Go.Proofs.cStep (outS (max left 1) l) has s) ∧ Cl l (Go.Proofs.cStep (outS (max left 1) l) has s) ∧ (Go.Proofs.cStep (outS (max left 1) l) has s).todo.length + Go.Aw.cnt s.met + 1 = s.todo.length + Go.Aw.cnt (Go.Proofs.cStep (outS (max left 1) l) has s).met := by
  obtain ⟨x, rest, e⟩ := List.exists_cons_of_ne_nil ht
  have hx : s.met.testBit x = true := h.todo x (by rw [e]; simp)
  have e0 : s.todo.getD 0 default = x := by rw [e]; rfl
  unfold Go.Proofs.cStep Go.Proofs.cIn
  rw [e0]
  have hmem : ∀ j, j ∈ pts (dif ((outS (max left 1) l).getD x default) s.over) ↔ (x, j) ∈ l ∧ s.over.testBit j = false := fun j => by
    have := outS_sides hl hr x j
    rw [pts_mem] at this ⊢
    rw [dif_bit, Bool.and_eq_true, Bool.not_eq_true', ← this, and_assoc]
  obtain ⟨h1, h2, h3, h4, h5, h6⟩ := h.cIn hl hleft hk (x := x) (pts (dif ((outS (max left 1) l).getD x default) s.over)) hx (fun j hj => ((hmem j).1 hj).1)
  generalize (pts (dif ((outS (max left 1) l).getD x default) s.over)).foldl (Go.Proofs.cJ has) s = s' at h1 h2 h3 h4 h5 h6
  obtain ⟨t, ht'⟩ := h3
  rw [e] at ht'
  have ed : s'.todo.drop 1 = rest ++ t := by rw [← ht']; rfl
  refine ⟨⟨h1.free, h1.metLt, h1.overLt, fun y hy => h1.todo y (List.mem_of_mem_drop hy), h1.back, h1.why, h1.alt, h1.cnt⟩, fun y hy hny j hj => ?_, ?_⟩
  · simp only at hy hny ⊢
    rw [ed] at hny
    rw [h5, hmem]
    by_cases hyx : y = x
    · subst hyx
      cases ho : s.over.testBit j with
      | true => exact .inl rfl
      | false => exact .inr ⟨hj, rfl⟩
    · rcases h6 y hy with h7 | h7
      · refine .inl (hc y h7 ?_ j hj)
        rw [e]
        exact fun h' => (List.mem_cons.1 h').elim hyx (fun h8 => hny (List.mem_append_left _ h8))
      · rw [← ht'] at h7
        rcases List.mem_cons.1 h7 with h8 | h8
        · exact absurd h8 hyx
        · exact absurd h8 hny
  · simp only
    rw [ed]
    rw [← ht', e] at h2
    simp only [List.length_cons, List.cons_append] at h2
    rw [e]
    simp only [List.length_cons]
    omega
include hl in
theorem cRun_end {has : List Int} (hleft : left ≤ 64) (hr : right ≤ 64) (hk : HasOK right left l has) : ∀ (m : Nat) (s : CS), CI left right l has s → Cl l s → s.todo.length + (left - cnt s.met) ≤ m →
    CI left right l has (cRun (outS (max left 1) l) has m s) ∧ Cl l (cRun (outS (max left 1) l) has m s) ∧ (cRun (outS (max left 1) l) has m s).todo = [] := by
  intro m
  induction m with
  | zero =>
    intro s h hc hm
    exact ⟨h, hc, List.eq_nil_of_length_eq_zero (by show s.todo.length = 0; omega)⟩
  | succ m ih =>
    intro s h hc hm
    unfold cRun
    by_cases ht : s.todo = []
    · rw [if_pos ht]; exact ⟨h, hc, ht⟩
    · rw [if_neg ht]
      obtain ⟨h1, h2, h3⟩ := h.cStep hl hleft hr hk hc ht
      have := h.cnt
      have := h1.cnt
      exact ih _ h1 h2 (by omega)
theorem CI.start {has : List Int} (left right : Nat) (l : List (Nat × Nat)) (hleft : left ≤ 64) : CI left right l has (cStart left has) ∧ Cl l (cStart left has) ∧ (cStart left has).todo.length + (left - Go.Aw.cnt (cStart left has).met) ≤ left := by
  have hb := met0_bit left has
  have hlt : ∀ x, (met0 left has).testBit x = true → x < left := fun x hx => ((hb x).1 hx).1
  have hc := cnt_lt hlt
  refine ⟨⟨fun x h1 h2 => (hb x).2 ⟨h1, h2⟩, hlt, fun j hj => ?_, fun x hx => ((pts_mem _ _).1 hx).2, fun j hj => ?_, fun x hx => .inl ((hb x).1 hx).2, fun S hS => ⟨fun x hx => hS.1 x ((hb x).1 hx).1 ((hb x).1 hx).2, fun j hj => ?_⟩, hc⟩, fun x hx hn => ?_, ?_⟩
  · simp [cStart] at hj
  · simp [cStart] at hj
  · simp [cStart] at hj
  · exact absurd ((pts_mem _ _).2 ⟨by have := hlt x hx; omega, hx⟩) hn
  · have e : (cStart left has).todo.length = Go.Aw.cnt (cStart left has).met := by
      show (pts (met0 left has)).length = Go.Aw.cnt (met0 left has)
      unfold pts Go.Aw.cnt
      rw [List.countP_eq_length_filter]
    rw [e]
    have : Go.Aw.cnt (cStart left has).met ≤ left := hc
    omega
include hl in
theorem cover_end (hleft : left ≤ 64) (hr : right ≤ 64) : CI left right l (kuhn left right l) (coverS left right l) ∧ ∀ x, (coverS left right l).met.testBit x = true → ∀ j, (x, j) ∈ l → (coverS left right l).over.testBit j = true := by
  have hk := (kuhn_end hl hr).ok
  obtain ⟨h1, h2, h3⟩ := CI.start (has := kuhn left right l) left right l hleft
  obtain ⟨g1, g2, g3⟩ := cRun_end hl hleft hr hk left _ h1 h2 h3
  exact ⟨g1, fun x hx => g2 x hx (by show x ∉ (coverS left right l).todo; unfold coverS; rw [g3]; simp)⟩
include hl in
/-- As many pairs as cover all lines. -/
theorem konig (hleft : left ≤ 64) (hr : right ≤ 64) : Cov l (coverA left right l) (coverB left right l) ∧ (coverA left right l).length + (coverB left right l).length = mostK (kuhn left right l) := by
  obtain ⟨h, hc⟩ := cover_end hl hleft hr
  have hE := kuhn_end hl hr
  have hA : ∀ x, x ∈ coverA left right l ↔ x < left ∧ (coverS left right l).met.testBit x = false := fun x => by
    unfold coverA
    rw [pts_mem, dif_bit, Bool.and_eq_true, Bool.not_eq_true', below_bit]
    exact ⟨fun h => h.2, fun h => ⟨by omega, h⟩⟩
  have hB : ∀ j, j ∈ coverB left right l ↔ (coverS left right l).over.testBit j = true := fun j => by
    unfold coverB
    rw [pts_mem]
    exact ⟨fun h => h.2, fun h' => ⟨by have := h.overLt j h'; omega, h'⟩⟩
  refine ⟨fun p hp => ?_, ?_⟩
  · cases hm : (coverS left right l).met.testBit p.1 with
    | true => exact .inr ((hB _).2 (hc _ hm _ hp))
    | false => exact .inl ((hA _).2 ⟨(hl p hp).1, hm⟩)
  · generalize hgs : kuhn left right l = has at h hE ⊢
    -- over: all of them have one
    obtain ⟨D, hD, hF⟩ := hE.free
    have hDS : AltC left l has fun x => ∀ j, (x, j) ∈ l → D j := ⟨fun x hx hn => hF x hx hn, fun x j y hx hj hy k hk => by
      obtain ⟨_, z, hz, hzk⟩ := hD j (hx j hj)
      have : z = y := by omega
      subst this
      exact hzk k hk⟩
    have hov : ∀ j, (coverS left right l).over.testBit j = true → j < right ∧ ∃ x : Nat, has.getD j default = (x : Int) := fun j hj => by
      obtain ⟨x, hx, hxj⟩ := (h.alt _ hDS).2 j hj
      obtain ⟨h1, y, h2, _⟩ := hD j (hx j hxj)
      exact ⟨h1, y, h2⟩
    have nd : (metR has).Nodup := List.Pairwise.filter _ List.nodup_range
    have e1 : mostK has = ((metR has).filter fun j => (coverS left right l).over.testBit j).length + ((metR has).filter fun j => !(coverS left right l).over.testBit j).length := by
      have := List.length_eq_countP_add_countP (fun j : Nat => (coverS left right l).over.testBit j) (l := metR has)
      rw [List.countP_eq_length_filter, List.countP_eq_length_filter] at this
      unfold mostK
      rw [this]; congr 2
      simp
    have e2 : (coverB left right l).length = ((metR has).filter fun j => (coverS left right l).over.testBit j).length := by
      have n1 : (coverB left right l).Nodup := List.Pairwise.filter _ List.nodup_range
      have n2 : ((metR has).filter fun j => (coverS left right l).over.testBit j).Nodup := List.Pairwise.filter _ nd
      refine Nat.le_antisymm (pig n1 fun x hx => ?_) (pig n2 fun x hx => (hB x).2 (List.mem_filter.1 hx).2)
      have h1 := (hB x).1 hx
      obtain ⟨h2, y, h3⟩ := hov x h1
      exact List.mem_filter.2 ⟨mem_metR.2 ⟨by rw [hE.ok.len]; exact h2, by omega⟩, h1⟩
    have e3 : (coverA left right l).length = ((metR has).filter fun j => !(coverS left right l).over.testBit j).length := by
      have n1 : (coverA left right l).Nodup := List.Pairwise.filter _ List.nodup_range
      have n2 : (((metR has).filter fun j => !(coverS left right l).over.testBit j).map fun j => (has.getD j default).toNat).Nodup := by
        rw [List.Nodup, List.pairwise_map]
        refine (List.Pairwise.filter _ nd).imp_of_mem fun {a b} ha hb hne e => hne ?_
        obtain ⟨a1, a2⟩ := mem_metR.1 (List.mem_filter.1 ha).1
        obtain ⟨b1, b2⟩ := mem_metR.1 (List.mem_filter.1 hb).1
        rw [hE.ok.len] at a1 b1
        exact hE.inj a b (has.getD a default).toNat a1 b1 (by omega) (by omega)
      have el : (((metR has).filter fun j => !(coverS left right l).over.testBit j).map fun j => (has.getD j default).toNat).length = ((metR has).filter fun j => !(coverS left right l).over.testBit j).length := List.length_map _
      rw [← el]
      refine Nat.le_antisymm (pig n1 fun x hx => ?_) (pig n2 fun x hx => ?_)
      · obtain ⟨h1, h2⟩ := (hA x).1 hx
        have h3 : (x : Int) ∈ has := Classical.byContradiction fun hn => by rw [h.free x h1 hn] at h2; cases h2
        obtain ⟨j, hj, e⟩ := hE.ok.mem_iff.1 h3
        refine List.mem_map.2 ⟨j, List.mem_filter.2 ⟨mem_metR.2 ⟨by rw [hE.ok.len]; exact hj, by omega⟩, ?_⟩, by rw [e]; rfl⟩
        cases ho : (coverS left right l).over.testBit j with
        | true => rw [h.back j ho x e] at h2; cases h2
        | false => rfl
      · obtain ⟨j, hj, rfl⟩ := List.mem_map.1 hx
        obtain ⟨h1, h2⟩ := List.mem_filter.1 hj
        obtain ⟨h3, h4⟩ := mem_metR.1 h1
        obtain ⟨y, hy, e, _⟩ := hE.ok.nat (by rw [← hE.ok.len]; exact h3) (by omega)
        rw [e, Int.toNat_natCast]
        refine (hA y).2 ⟨hy, ?_⟩
        rw [← Bool.not_eq_true]
        intro hm
        rcases h.why y hm with h5 | ⟨k, h5, h6⟩
        · exact h5 (hE.ok.mem_iff.2 ⟨j, by rw [← hE.ok.len]; exact h3, e⟩)
        · have := hE.inj j k y (by rw [← hE.ok.len]; exact h3) (h.overLt k h5) e h6
          subst this
          rw [h5] at h2; cases h2
    omega
include hl in
theorem most_MN (hleft : left ≤ 64) (hr : right ≤ 64) : MN l (mostK (kuhn left right l)) := by
  obtain ⟨h1, h2⟩ := konig hl hleft hr
  obtain ⟨h3, h4⟩ := (kuhn_end hl hr).mtch
  exact ⟨⟨_, h3, h4⟩, _, _, h1, h2⟩
/-! ### Mendelsohn, Dulmage -/
include hl in
theorem least (hleft : left ≤ 64) (hr : right ≤ 64) {i : Nat} (hi : i < left) {m : Nat} {l' : List (Nat × Nat)} (hm : MN l' m) (hl' : ∀ p, p ∈ l' ↔ p ∈ l ∧ p.1 ≠ i) :
    (i ∈ coverA left right l → m + 1 = mostK (kuhn left right l)) ∧ (i ∉ coverA left right l → m = mostK (kuhn left right l)) := by
  have hM := most_MN hl hleft hr
  have hle : m ≤ mostK (kuhn left right l) := hm.le hM fun p hp => ((hl' p).1 hp).1
  obtain ⟨hc, hn⟩ := konig hl hleft hr
  constructor
  · intro hA
    have h1 : m + 1 ≤ mostK (kuhn left right l) := by
      obtain ⟨⟨M, hM1, rfl⟩, _⟩ := hm
      have := hM1.weak (A := (coverA left right l).erase i) (B := coverB left right l) fun p hp => by
        obtain ⟨h2, h3⟩ := (hl' p).1 hp
        exact (hc p h2).imp (fun h => (List.mem_erase_of_ne h3).2 h) id
      rw [List.length_erase_of_mem hA] at this
      have := List.length_pos_of_mem hA
      omega
    have h2 : mostK (kuhn left right l) ≤ m + 1 := by
      obtain ⟨⟨M, hM1, e⟩, _⟩ := hM
      obtain ⟨_, A, B, h3, h4⟩ := hm
      have := hM1.weak (A := i :: A) (B := B) fun p hp => by
        by_cases h5 : p.1 = i
        · exact .inl (by simp [h5])
        · exact (h3 p ((hl' p).2 ⟨hp, h5⟩)).imp (fun h => by simp [h]) id
      simp only [List.length_cons] at this
      omega
    omega
  · intro hA
    refine Nat.le_antisymm hle (Nat.le_of_not_lt fun hlt => ?_)
    obtain ⟨h, _⟩ := cover_end hl hleft hr
    have hmet : (coverS left right l).met.testBit i = true := by
      cases hm' : (coverS left right l).met.testBit i with
      | true => rfl
      | false => exact absurd ((pts_mem _ _).2 ⟨by omega, by rw [dif_bit, Bool.and_eq_true, below_bit]; exact ⟨hi, by rw [hm']; rfl⟩⟩) hA
    have hE := kuhn_end hl hr
    obtain ⟨hP, hPl⟩ := hE.mtch
    obtain ⟨_, A, B, h3, h4⟩ := hm
    have hcov : Cov l (i :: A) B := fun p hp => by
      by_cases h5 : p.1 = i
      · exact .inl (by simp [h5])
      · exact (h3 p ((hl' p).2 ⟨hp, h5⟩)).imp (fun h => by simp [h]) id
    have tight : ∀ x, x ∈ i :: A → ¬ Cov (pairL (kuhn left right l)) ((i :: A).erase x) B := fun x hx hcv => by
      have := weak hP.fst hP.snd hcv
      rw [List.length_erase_of_mem hx] at this
      simp only [List.length_cons] at this
      omega
    have hin : ∀ p, p ∈ pairL (kuhn left right l) ↔ p.2 < right ∧ (kuhn left right l).getD p.2 default = (p.1 : Int) := fun p => by
      unfold pairL
      rw [List.mem_map]
      constructor
      · rintro ⟨j, hj, rfl⟩
        obtain ⟨h1, h2⟩ := mem_metR.1 hj
        exact ⟨by rw [← hE.ok.len]; exact h1, by simp only; omega⟩
      · rintro ⟨h1, h2⟩
        exact ⟨p.2, mem_metR.2 ⟨by rw [hE.ok.len]; exact h1, by omega⟩, by rw [h2]; rfl⟩
    have := (h.alt (fun x => x ∉ i :: A) ⟨fun x hx hno hxA => ?_, fun x j y hx hj hy hyA => ?_⟩).1 i hmet
    · exact this (by simp)
    · refine tight x hxA fun p hp => ?_
      refine (hcov p (hP.sub p hp)).imp (fun h' => (List.mem_erase_of_ne fun e => hno ?_).2 h') id
      rw [← e]
      exact hE.ok.mem_iff.2 ⟨p.2, ((hin p).1 hp).1, ((hin p).1 hp).2⟩
    · have hjB : j ∈ B := (hcov _ hj).resolve_left hx
      refine tight y hyA fun p hp => ?_
      by_cases hpy : p.1 = y
      · refine .inr ?_
        obtain ⟨h1, h2⟩ := (hin p).1 hp
        have := hE.inj p.2 j y h1 (hl _ hj).2 (by rw [h2, hpy]) hy
        rw [this]; exact hjB
      · exact (hcov p (hP.sub p hp)).imp (fun h' => (List.mem_erase_of_ne hpy).2 h') id
end
end Go.Proofs

namespace Go.Proofs
open Go.Aw
/-- The best of those that go on by one of the first J. -/
def mmJ (L : List (Nat × Nat)) (f : List Nat → Nat) (i : Nat) (used : List Nat) (b : Nat) : Nat → Nat
  | 0 => b
  | j + 1 => if (i, j) ∈ L ∧ j ∉ used then max (mmJ L f i used b j) (1 + f (used ++ [j])) else mmJ L f i used b j
/-- The most pairs of the last k on the left, but one, with others than are used. -/
def mm (L : List (Nat × Nat)) (left right : Nat) (but : Int) : Nat → List Nat → Nat
  | 0, _ => 0
  | k + 1, used => if ((left - (k + 1) : Nat) : Int) = but then mm L left right but k used else mmJ L (mm L left right but k) (left - (k + 1)) used (mm L left right but k used) right
structure Mt (L : List (Nat × Nat)) (but : Int) (i : Nat) (used : List Nat) (M : List (Nat × Nat)) : Prop where
  m : Mtch L M
  ge : ∀ p ∈ M, i ≤ p.1
  but : ∀ p ∈ M, (p.1 : Int) ≠ but
  used : ∀ p ∈ M, p.2 ∉ used
theorem inj_of {α β : Type} {f : α → β} {l : List α} (hn : (l.map f).Nodup) {a b : α} (ha : a ∈ l) (hb : b ∈ l) (e : f a = f b) : a = b := by
  induction l with
  | nil => cases ha
  | cons x l ih =>
    rw [List.map_cons, List.nodup_cons] at hn
    by_cases h1 : a = x
    · by_cases h2 : b = x
      · rw [h1, h2]
      · have hb' := (List.mem_cons.1 hb).resolve_left h2
        subst h1
        exact absurd (List.mem_map.2 ⟨b, hb', e.symm⟩) hn.1
    · have ha' := (List.mem_cons.1 ha).resolve_left h1
      by_cases h2 : b = x
      · subst h2
        exact absurd (List.mem_map.2 ⟨a, ha', e⟩) hn.1
      · exact ih hn.2 ha' ((List.mem_cons.1 hb).resolve_left h2)
section
variable {L : List (Nat × Nat)} {left right : Nat} {but : Int} (hL : ∀ p ∈ L, p.1 < left ∧ p.2 < right)
include hL
end
end Go.Proofs

namespace Go.Proofs
open Go.Aw
set_option linter.unusedVariables false
def stb2 (n : Nat) (A B : List (List Nat)) (H : List Nat) : Bool := (List.range n).all fun i => (List.range n).all fun j => !(decide (rk A i j < rk A i (H.getD i default)) && decide (rk B j i < rk B j (H.idxOf j)))
def lowR (A : List (List Nat)) (g b : List Nat) : Nat → List Nat
  | 0 => b
  | k + 1 => if rk A k (g.getD k default) < rk A k ((lowR A g b k).getD k default) then (lowR A g b k).set k (g.getD k default) else lowR A g b k
def stbJ (A : List (List Nat)) (n : Nat) (f : List Nat → List Nat) (so : List Nat) : Nat → List Nat
  | 0 => []
  | x + 1 => if x ∈ so then stbJ A n f so x else if f (so ++ [x]) = [] then stbJ A n f so x else lowR A (f (so ++ [x])) (if stbJ A n f so x = [] then f (so ++ [x]) else stbJ A n f so x) n
def stbs (A B : List (List Nat)) (n : Nat) : Nat → List Nat → List Nat
  | 0, so => if stb2 n A B so = true then so else []
  | m + 1, so => stbJ A n (stbs A B n m) so n
def FullR (n : Nat) (H : List Nat) : Prop := H.length = n ∧ H.Nodup ∧ ∀ y ∈ H, y < n
def BestR (A : List (List Nat)) (n : Nat) (Q : List Nat → Prop) (r : List Nat) : Prop :=
  (r = [] ∧ ∀ H, ¬ Q H) ∨ (r.length = n ∧ ∀ i, i < n → (∃ H, Q H ∧ H.getD i default = r.getD i default) ∧ ∀ H, Q H → rk A i (r.getD i default) ≤ rk A i (H.getD i default))
def QR (A B : List (List Nat)) (n : Nat) (H : List Nat) : Prop := FullR n H ∧ Stb n A B fun i => H.getD i default
def OkR (n : Nat) (r : List Nat) : Prop := r = [] ∨ (r.length = n ∧ ∀ y ∈ r, y < n)
theorem OkR.low {A : List (List Nat)} {n : Nat} {g p : List Nat} (hg : OkR n g) (hp : OkR n p) (hne : g ≠ []) : (if p = [] then g else p).length = n ∧ ∀ y ∈ (if p = [] then g else p), y < n := by
  by_cases h : p = []
  · rw [if_pos h]; exact hg.resolve_left hne
  · rw [if_neg h]; exact hp.resolve_left h
end Go.Proofs

namespace Go.Proofs
open Go.Aw
theorem pts_filter {n s : Nat} (hn : n ≤ 64) (h : ∀ j, s.testBit j = true → j < n) : pts s = (List.range n).filter fun j => s.testBit j := by
  unfold pts
  obtain ⟨k, hk⟩ : ∃ k, 64 = n + k := ⟨64 - n, by omega⟩
  rw [hk, List.range_add, List.filter_append]
  have : (((List.range k).map fun x => n + x).filter fun i => s.testBit i) = [] := by
    rw [List.filter_eq_nil_iff]
    intro x hx
    obtain ⟨y, _, rfl⟩ := List.mem_map.1 hx
    intro h2
    have := h _ h2; omega
  rw [this, List.append_nil]
/-- Pairs that a test lets through, row by row. -/
def closC (c : Nat → Nat → Bool) (a b : Nat) : List (Nat × Nat) := ((List.range b).filter (c a)).map fun y => (a, y)
def closR (c : Nat → Nat → Bool) (n a : Nat) : List (Nat × Nat) := (List.range a).flatMap fun x => closC c x n
theorem closR_succ (c : Nat → Nat → Bool) (n a : Nat) : closR c n (a + 1) = closR c n a ++ closC c a n := by
  unfold closR
  rw [List.range_succ, List.flatMap_append]
  simp
theorem closC_succ (c : Nat → Nat → Bool) (a b : Nat) : closC c a (b + 1) = closC c a b ++ (if c a b then [(a, b)] else []) := by
  unfold closC
  rw [List.range_succ, List.filter_append, List.map_append]
  congr 1
  cases h : c a b <;> simp [h]
theorem closC_zero (c : Nat → Nat → Bool) (a : Nat) : closC c a 0 = [] := rfl
theorem closR_zero (c : Nat → Nat → Bool) (n : Nat) : closR c n 0 = [] := rfl
theorem closC_len (c : Nat → Nat → Bool) (a b : Nat) : (closC c a b).length ≤ b := by
  unfold closC
  have := List.length_filter_le (c a) (List.range b)
  simpa using this
theorem closR_len (c : Nat → Nat → Bool) (n a : Nat) : (closR c n a).length ≤ a * n := by
  induction a with
  | zero => simp [closR]
  | succ a ih =>
    rw [closR_succ, List.length_append, Nat.succ_mul]
    have := closC_len c a n
    omega
/-- No point stands between. -/
def shortK (A : List (Nat × Nat)) (p : Nat × Nat) (k : Nat) : Bool := (List.range k).all fun k => !(decide ((p.1, k) ∈ A) && decide ((k, p.2) ∈ A))
def fewC (c : Nat → Nat → Bool) (n : Nat) : List (Nat × Nat) := (closR c n n).filter fun p => shortK (closR c n n) p n
section
variable {n : Nat} {l : List (Nat × Nat)} (hn : n ≤ 64) (hg : Good n l) {c : Nat → Nat → Bool} (hc : ∀ i j, i < n → j < n → (c i j = true ↔ Path1 l i j))
include hn hg hc
theorem war_row {a : Nat} (ha : a < n) : pts ((war n l).getD a default) = (List.range n).filter (c a) := by
  rw [pts_filter hn fun j h => ((war_bit hg a j).1 h |>.lt hg).2]
  refine List.filter_congr fun b hb => ?_
  have hb := List.mem_range.1 hb
  rw [Bool.eq_iff_iff, war_bit hg, hc a b ha hb]
end
end Go.Proofs

namespace Go.Proofs
open Go.Aw
/-- Over which points all ways go, by tables of ways. -/
def ovrC (n : Nat) (l : List (Int × Int)) (f i k : Nat) : Bool := decide (k = f) || (decide (k = i) || decide (farK n (far0 l false (k : Int)) n f i < 0))
def ovrR (n : Nat) (l : List (Int × Int)) (f i : Nat) : List Nat := if farK n (far0 l false (-1)) n f i < 0 then [] else (List.range n).filter (ovrC n l f i)
/-- The last one, as the answer's loop finds it. -/
def bestR (A : List (List Nat)) (i : Nat) (b : Int) (j : Nat) : Int := if j ≠ i ∧ (b < 0 ∨ (A.getD b.toNat []).length < (A.getD j []).length) then (j : Int) else b
def bestP (A : List (List Nat)) (i k : Nat) : Int := ((A.getD i []).take k).foldl (bestR A i) (-1)
end Go.Proofs

namespace Go.Proofs
open Go.Aw
def leastL (P : List Nat) (n : Nat) : List Nat := (List.range n).filter (isRoot P)
/-- Does a line go between two parts? -/
def crossB (N : List Nat) (l : List (Nat × Nat)) (a b : Nat) : Bool := l.any fun p => decide (N.getD p.1 default = a) && decide (N.getD p.2 default = b)
def foldC (N : List Nat) (l : List (Nat × Nat)) (a b : Nat) : Bool := crossB N l a b && decide (a ≠ b)
section
variable {n : Nat} {l : List (Nat × Nat)} (hn : n ≤ 64) (hg : Good n l)
include hn hg
end
end Go.Proofs

namespace Go.Proofs
open Go.Aw
/-- Ways by their points. -/
def WayF (l : List (Nat × Nat)) (p : Nat → Nat) (k : Nat) : Prop := ∀ i, i < k → (p i, p (i + 1)) ∈ l
theorem PathN.trans {l : List (Nat × Nat)} {a k b m c : Nat} (h : PathN l a k b) (h' : PathN l b m c) : PathN l a (k + m) c := by
  induction h' with
  | refl => exact h
  | step _ h1 ih => exact .step ih h1
/-- Where one is after so many lines. -/
def nowS (next : List Nat) (a : Nat) : Nat → Nat
  | 0 => 2 ^ a
  | k + 1 => orL next (pts (nowS next a k))
def oddK (next : List Nat) (a b k : Nat) : Nat := if k % 2 = 1 ∧ (nowS next a k).testBit a = true ∧ (b = 0 ∨ k < b) then k else b
def oddA (next : List Nat) (n b a : Nat) : Nat := (List.range n).foldl (fun b k => oddK next a b (k + 1)) b
def oddN (n : Nat) (next : List Nat) : Nat := (List.range n).foldl (oddA next n) 0
end Go.Proofs

namespace Go.Proofs
open Go.Aw
/-- May one come back over so many more points? -/
def ringF (n : Nat) (c : Nat → Nat → Bool) : Nat → List Nat → Bool
  | 0, way => c (way.getD (way.length - 1) default) (way.getD 0 default)
  | k + 1, way => (List.range n).any fun b => c (way.getD (way.length - 1) default) b && (!decide (b ∈ way) && ringF n c k (way ++ [b]))
def ringR (n : Nat) (c : Nat → Nat → Bool) (m : Nat) : Bool := (List.range n).any fun a => ringF n c (m - 1) [a]
section
variable {n : Nat} {l : List (Nat × Nat)} {c : Nat → Nat → Bool} (hc : ∀ a b, c a b = true ↔ (a, b) ∈ l)
include hc
end
section
variable {n : Nat} {l : List (Nat × Nat)} (hn : n ≤ 64) (hg : Good n l) (hs : ∀ a, (a, a) ∉ l) {c : Nat → Nat → Bool} (hc : ∀ a b, c a b = true ↔ (a, b) ∈ symL l)
include hn hg hc
include hs
end
/-- Both parts, by distances from the least point that hangs together with one. -/
def hpR (n : Nat) (F : Nat → Nat → Int) (L : List (Nat × Nat)) : List Int := (List.range n).map fun i => F i (rootP n L i) % 2
def hpOk (out : List Int) (L : List (Nat × Nat)) : Bool := L.all fun p => !decide (out.getD p.1 default = out.getD p.2 default)
end Go.Proofs

namespace Go.Proofs
open Go.Aw
/-- Whom some have lines to. -/
def nbrs (left right : Nat) (l : List (Nat × Nat)) (s : Nat) : Nat := (List.range right).countP fun j => (List.range left).any fun i => s.testBit i && decide ((i, j) ∈ l)
def someN (left s : Nat) : Nat := (List.range left).countP fun i => s.testBit i
section
variable {left right : Nat} {l : List (Nat × Nat)} (hl : Sides left right l)
include hl
end
end Go.Proofs

namespace Go.Proofs
open Go.Aw
section
variable {n : Nat} {R : List (Nat × Nat)} (hg : Good n R) (ht : ∀ a b c, (a, b) ∈ R → (b, c) ∈ R → (a, c) ∈ R)
include hg ht
/-- Of points of which none is ahead of another one there are no more than rows. -/
theorem anti_le {m : Nat} (h : MN R m) {T : List Nat} (hT : T.Nodup) (hlt : ∀ t ∈ T, t < n) (ha : ∀ t ∈ T, ∀ u ∈ T, (t, u) ∉ R) : T.length + m ≤ n := by
  obtain ⟨⟨M, h1, rfl⟩, _⟩ := h
  let B := (List.range n).filter fun y => T.any fun t => decide ((t, y) ∈ R)
  let A := (List.range n).filter fun x => !decide (x ∈ T) && !decide (x ∈ B)
  have memB : ∀ y, y ∈ B ↔ y < n ∧ ∃ t ∈ T, (t, y) ∈ R := fun y => by
    show y ∈ List.filter _ _ ↔ _
    rw [List.mem_filter, List.any_eq_true]; simp
  have memA : ∀ x, x ∈ A ↔ x < n ∧ x ∉ T ∧ x ∉ B := fun x => by
    show x ∈ List.filter _ _ ↔ _
    rw [List.mem_filter]; simp
  have hw := h1.weak (A := A) (B := B) fun p hp => by
    have h2 := hg p hp
    by_cases hx : p.1 ∈ T
    · exact .inr ((memB _).2 ⟨h2.2, p.1, hx, hp⟩)
    · by_cases hx2 : p.1 ∈ B
      · obtain ⟨_, t, h3, h4⟩ := (memB _).1 hx2
        exact .inr ((memB _).2 ⟨h2.2, t, h3, ht _ _ _ h4 hp⟩)
      · exact .inl ((memA _).2 ⟨h2.1, hx, hx2⟩)
  have hn : (T ++ (A ++ B)).Nodup := by
    rw [List.nodup_append, List.nodup_append]
    refine ⟨hT, ⟨List.Pairwise.filter _ List.nodup_range, List.Pairwise.filter _ List.nodup_range, fun x hx y hy e => ?_⟩, fun x hx y hy e => ?_⟩
    · subst e
      exact ((memA _).1 hx).2.2 hy
    · subst e
      rcases List.mem_append.1 hy with hy | hy
      · exact ((memA _).1 hy).2.1 hx
      · obtain ⟨_, t, h3, h4⟩ := (memB _).1 hy
        exact ha _ h3 _ hx h4
  have hp := pig (M := List.range n) hn fun x hx => by
    rcases List.mem_append.1 hx with h | h
    · simpa using hlt x h
    rcases List.mem_append.1 h with h | h
    · simpa using ((memA _).1 h).1
    · simpa using ((memB _).1 h).1
  simp only [List.length_append, List.length_range] at hp
  omega
end
end Go.Proofs

namespace Go.Proofs
open Go.Aw
/-- The fewest rows, point by point. -/
def rowJ (C : List (Nat × Nat)) (f : List Nat → Nat) (x : Nat) (ends : List Nat) (b : Nat) : Nat → Nat
  | 0 => b
  | K + 1 => if (ends.getD K default, x) ∈ C ∧ f (ends.set K x) < rowJ C f x ends b K then f (ends.set K x) else rowJ C f x ends b K
def rowF (C : List (Nat × Nat)) : List Nat → List Nat → Nat
  | [], ends => ends.length
  | x :: os, ends => rowJ C (rowF C os) x ends (rowF C os (ends ++ [x])) ends.length
theorem rowJ_le (C : List (Nat × Nat)) (f : List Nat → Nat) (x : Nat) (ends : List Nat) (b : Nat) : ∀ K, rowJ C f x ends b K ≤ b ∧ ∀ k, k < K → (ends.getD k default, x) ∈ C → rowJ C f x ends b K ≤ f (ends.set k x) := by
  intro K
  induction K with
  | zero => exact ⟨Nat.le_refl _, fun k hk => by omega⟩
  | succ K ih =>
    obtain ⟨h1, h2⟩ := ih
    unfold rowJ
    by_cases hc : (ends.getD K default, x) ∈ C ∧ f (ends.set K x) < rowJ C f x ends b K
    · rw [if_pos hc]
      refine ⟨by omega, fun k hk hm => ?_⟩
      by_cases e : k = K
      · subst e; exact Nat.le_refl _
      · have := h2 k (by omega) hm; omega
    · rw [if_neg hc]
      refine ⟨h1, fun k hk hm => ?_⟩
      by_cases e : k = K
      · subst e
        rcases Nat.lt_or_ge (f (ends.set k x)) (rowJ C f x ends b k) with h | h
        · exact absurd ⟨hm, h⟩ hc
        · exact h
      · exact h2 k (by omega) hm
theorem rowJ_eq (C : List (Nat × Nat)) (f : List Nat → Nat) (x : Nat) (ends : List Nat) (b : Nat) : ∀ K, rowJ C f x ends b K = b ∨ ∃ k, k < K ∧ (ends.getD k default, x) ∈ C ∧ rowJ C f x ends b K = f (ends.set k x) := by
  intro K
  induction K with
  | zero => exact .inl rfl
  | succ K ih =>
    unfold rowJ
    by_cases hc : (ends.getD K default, x) ∈ C ∧ f (ends.set K x) < rowJ C f x ends b K
    · rw [if_pos hc]
      exact .inr ⟨K, by omega, hc.1, rfl⟩
    · rw [if_neg hc]
      rcases ih with h | ⟨k, h1, h2, h3⟩
      · exact .inl h
      · exact .inr ⟨k, by omega, h2, h3⟩
theorem mem_set_cases {s : List Nat} {k x z : Nat} (hk : k < s.length) (hn : s.Nodup) (h : z ∈ s.set k x) : z = x ∨ (z ∈ s ∧ z ≠ s.getD k default) := by
  obtain ⟨j, hj, e⟩ := List.mem_iff_getElem.1 h
  rw [List.getElem_set] at e
  by_cases ek : k = j
  · rw [if_pos ek] at e; exact .inl e.symm
  · rw [if_neg ek] at e
    have hj' : j < s.length := by simpa using hj
    refine .inr ⟨by rw [← e]; exact List.getElem_mem hj', fun e2 => ?_⟩
    rw [List.getD_eq_getElem?_getD, List.getElem?_eq_getElem hk, Option.getD_some, ← e] at e2
    have := (List.getElem_inj hn).1 e2
    omega
theorem nodup_set {s : List Nat} {k x : Nat} (hn : s.Nodup) (hx : x ∉ s) : (s.set k x).Nodup := by
  rw [List.Nodup, List.pairwise_iff_getElem]
  intro i j hi hj hij e
  rw [List.getElem_set, List.getElem_set] at e
  have hi' : i < s.length := by simpa using hi
  have hj' : j < s.length := by simpa using hj
  by_cases e1 : k = i
  · rw [if_pos e1, if_neg (by omega)] at e
    exact hx (by rw [e]; exact List.getElem_mem hj')
  · rw [if_neg e1] at e
    by_cases e2 : k = j
    · rw [if_pos e2] at e
      exact hx (by rw [← e]; exact List.getElem_mem hi')
    · rw [if_neg e2] at e
      have := (List.getElem_inj hn).1 e
      omega
section
variable {C : List (Nat × Nat)} {o : List Nat} (ho : o.Nodup)
include ho
/-- As many rows as there are points, less the pairs of a row. -/
theorem row_ge {m : Nat} (hm : ∀ M, Mtch C M → M.length ≤ m) : ∀ (os done ends : List Nat) (M : List (Nat × Nat)), done ++ os = o → Mtch C M → ends.Nodup → (∀ z ∈ ends, z ∈ done ∧ z ∉ M.map Prod.fst) → (∀ p ∈ M, p.1 ∈ done ∧ p.2 ∈ done) → ends.length + M.length = done.length → o.length ≤ rowF C os ends + m := by
  intro os
  induction os with
  | nil =>
    intro done ends M e h1 h2 h3 h4 h5
    have := hm M h1
    rw [List.append_nil] at e
    subst e
    show _ ≤ ends.length + m
    omega
  | cons x os ih =>
    intro done ends M e h1 h2 h3 h4 h5
    have hxd : x ∉ done := fun h => by
      rw [← e] at ho
      exact (List.nodup_append.1 ho).2.2 x h x (by simp) rfl
    have hxe : x ∉ ends := fun h => hxd (h3 x h).1
    have e' : (done ++ [x]) ++ os = o := by rw [← e]; simp
    show _ ≤ rowJ C (rowF C os) x ends (rowF C os (ends ++ [x])) ends.length + m
    rcases rowJ_eq C (rowF C os) x ends (rowF C os (ends ++ [x])) ends.length with h | ⟨k, hk, hC, h⟩
    · rw [h]
      refine ih (done ++ [x]) (ends ++ [x]) M e' h1 ?_ ?_ ?_ ?_
      · rw [List.nodup_append]
        exact ⟨h2, by simp, fun a ha b hb => by rintro rfl; exact hxe (by simpa [List.mem_singleton.1 hb] using ha)⟩
      · intro z hz
        rcases List.mem_append.1 hz with hz | hz
        · exact ⟨by simp [(h3 z hz).1], (h3 z hz).2⟩
        · obtain rfl := List.mem_singleton.1 hz
          refine ⟨by simp, fun hf => ?_⟩
          obtain ⟨p, hp, e1⟩ := List.mem_map.1 hf
          exact hxd (e1 ▸ (h4 p hp).1)
      · exact fun p hp => ⟨by simp [(h4 p hp).1], by simp [(h4 p hp).2]⟩
      · simp; omega
    · rw [h]
      have hym : ends.getD k default ∈ ends := by
        rw [List.getD_eq_getElem?_getD, List.getElem?_eq_getElem hk]; exact List.getElem_mem hk
      have hyd := h3 _ hym
      have hyx : ends.getD k default ≠ x := fun e => hxd (e ▸ hyd.1)
      refine ih (done ++ [x]) (ends.set k x) ((ends.getD k default, x) :: M) e' ⟨?_, ?_, ?_⟩ (nodup_set h2 hxe) ?_ ?_ ?_
      · intro p hp
        rcases List.mem_cons.1 hp with rfl | hp
        · exact hC
        · exact h1.sub p hp
      · rw [List.map_cons, List.nodup_cons]
        exact ⟨hyd.2, h1.fst⟩
      · rw [List.map_cons, List.nodup_cons]
        refine ⟨fun hs => ?_, h1.snd⟩
        obtain ⟨p, hp, e1⟩ := List.mem_map.1 hs
        exact hxd ((show p.2 = x from e1) ▸ (h4 p hp).2)
      · intro z hz
        rw [List.map_cons, List.mem_cons]
        rcases mem_set_cases hk h2 hz with rfl | ⟨h6, h7⟩
        · refine ⟨by simp, fun hf => ?_⟩
          rcases hf with hf | hf
          · exact hyx hf.symm
          · obtain ⟨p, hp, e1⟩ := List.mem_map.1 hf
            exact hxd (e1 ▸ (h4 p hp).1)
        · exact ⟨by simp [(h3 z h6).1], fun hf => hf.elim h7 (h3 z h6).2⟩
      · intro p hp
        rcases List.mem_cons.1 hp with rfl | hp
        · exact ⟨List.mem_append_left _ hyd.1, by simp⟩
        · exact ⟨by simp [(h4 p hp).1], by simp [(h4 p hp).2]⟩
      · simp; omega
theorem row_le {M : List (Nat × Nat)} (hM : Mtch C M) (hord : ∀ y x, (y, x) ∈ M → ∀ s t, o = s ++ x :: t → y ∈ s) : ∀ (os done ends : List Nat), done ++ os = o → (∀ p ∈ M, p.2 ∈ os → p.1 ∈ done → p.1 ∈ ends) → rowF C os ends ≤ ends.length + os.countP (fun x => !decide (x ∈ M.map Prod.snd)) := by
  intro os
  induction os with
  | nil => intro done ends _ _; show ends.length ≤ _; omega
  | cons x os ih =>
    intro done ends e hinv
    have e' : (done ++ [x]) ++ os = o := by rw [← e]; simp
    have hxd : x ∉ done := fun h => by
      rw [← e] at ho
      exact (List.nodup_append.1 ho).2.2 x h x (by simp) rfl
    have hxos : x ∉ os := fun h => by
      rw [← e] at ho
      exact (List.nodup_cons.1 (List.nodup_append.1 ho).2.1).1 h
    obtain ⟨h1, h2⟩ := rowJ_le C (rowF C os) x ends (rowF C os (ends ++ [x])) ends.length
    show rowJ C (rowF C os) x ends (rowF C os (ends ++ [x])) ends.length ≤ _
    rw [List.countP_cons]
    by_cases hx : x ∈ M.map Prod.snd
    · obtain ⟨⟨y, x'⟩, hp, e1⟩ := List.mem_map.1 hx
      have e1 : x' = x := e1
      subst e1
      have hy := hinv (y, x') hp (by simp) (hord y x' hp done os e.symm)
      obtain ⟨k, hk, ek⟩ := List.mem_iff_getElem.1 hy
      have ek' : ends.getD k default = y := by rw [List.getD_eq_getElem?_getD, List.getElem?_eq_getElem hk]; exact ek
      have h3 := h2 k hk (by rw [ek']; exact hM.sub _ hp)
      have h4 := ih (done ++ [x']) (ends.set k x') e' (fun p hpM hps hpd => by
        rcases List.mem_append.1 hpd with hpd | hpd
        · have h5 := hinv p hpM (by simp [hps]) hpd
          obtain ⟨j, hj, ej⟩ := List.mem_iff_getElem.1 h5
          have hjk : j ≠ k := fun e5 => by
            subst e5
            have e6 : p.1 = y := by rw [← ej, ek]
            have := inj_of hM.fst hpM hp (by exact e6)
            rw [this] at hps
            exact hxos hps
          refine List.mem_iff_getElem.2 ⟨j, by simpa using hj, ?_⟩
          rw [List.getElem_set, if_neg (fun e => hjk e.symm)]; exact ej
        · have e6 := List.mem_singleton.1 hpd
          rw [e6]
          exact List.mem_set hk x')
      rw [List.length_set] at h4
      omega
    · have h4 := ih (done ++ [x]) (ends ++ [x]) e' (fun p hpM hps hpd => by
        rcases List.mem_append.1 hpd with hpd | hpd
        · exact List.mem_append_left _ (hinv p hpM (by simp [hps]) hpd)
        · exact List.mem_append_right _ hpd)
      have e7 : (!decide (x ∈ M.map Prod.snd)) = true := by rw [decide_eq_false hx]; rfl
      rw [if_pos e7]
      rw [List.length_append] at h4
      simp at h4
      simp
      omega
end
/-- The fewest rows are as many as points less pairs. -/
theorem row_min {C : List (Nat × Nat)} {o : List Nat} {n m : Nat} (hn : o.Nodup) (hl : o.length = n) (hmem : ∀ x, x ∈ o ↔ x < n) (hg : Good n C) (hord : ∀ y x, (y, x) ∈ C → ∀ s t, o = s ++ x :: t → y ∈ s) (hm : MN C m) : rowF C o [] + m = n := by
  obtain ⟨⟨M, h1, h2⟩, A, B, h3, h4⟩ := hm
  have g1 := row_ge (C := C) hn (m := m) (fun M hM => by have := hM.weak h3; omega) o [] [] [] (by simp) ⟨by simp, by simp, by simp⟩ (by simp) (by simp) (by simp) rfl
  have g2 := row_le hn h1 (fun y x h => hord y x (h1.sub _ h)) o [] [] (by simp) (fun p _ _ h => by cases h)
  have hc : o.countP (fun x => !decide (x ∈ M.map Prod.snd)) + M.length = n := by
    have hs := List.length_eq_countP_add_countP (fun x => decide (x ∈ M.map Prod.snd)) (l := o)
    have h5 : o.countP (fun x => decide (x ∈ M.map Prod.snd)) = M.length := by
      rw [List.countP_eq_length_filter]
      have a1 := pig (L := o.filter fun x => decide (x ∈ M.map Prod.snd)) (M := M.map Prod.snd) (List.Pairwise.filter _ hn) (fun x hx => by simpa using (List.mem_filter.1 hx).2)
      have a2 := pig (L := M.map Prod.snd) (M := o.filter fun x => decide (x ∈ M.map Prod.snd)) h1.snd (fun x hx => List.mem_filter.2 ⟨by
        obtain ⟨p, hp, rfl⟩ := List.mem_map.1 hx
        exact (hmem _).2 (hg _ (h1.sub _ hp)).2, decide_eq_true hx⟩)
      rw [List.length_map] at a1 a2
      omega
    have h6 : o.countP (fun x => !decide (x ∈ M.map Prod.snd)) = o.countP (fun x => decide ¬ (decide (x ∈ M.map Prod.snd)) = true) := by
      congr 1; funext x; simp
    rw [h6]; omega
  simp at g2
  omega
/-- The most points none of which is ahead of another one. -/
def wideF (C : List (Nat × Nat)) (n : Nat) : Nat → List Nat → Nat
  | 0, has => has.length
  | k + 1, has => if (has.all fun y => !(decide ((n - (k + 1), y) ∈ C) || decide ((y, n - (k + 1)) ∈ C))) = true then max (wideF C n k has) (wideF C n k (has ++ [n - (k + 1)])) else wideF C n k has
section
variable {C : List (Nat × Nat)} {n : Nat}
theorem wide_up (hr : ∀ i, (i, i) ∉ C) : ∀ (k : Nat), k ≤ n → ∀ has : List Nat, has.Nodup → (∀ x ∈ has, x < n - k) → (∀ x ∈ has, ∀ y ∈ has, (x, y) ∉ C) → ∃ T : List Nat, T.Nodup ∧ (∀ x ∈ T, x < n) ∧ (∀ x ∈ T, ∀ y ∈ T, (x, y) ∉ C) ∧ T.length = wideF C n k has := by
  intro k
  induction k with
  | zero => intro _ has h1 h2 h3; exact ⟨has, h1, h2, h3, rfl⟩
  | succ k ih =>
    intro hk has h1 h2 h3
    have A := ih (by omega) has h1 (fun x hx => by have := h2 x hx; omega) h3
    unfold wideF
    by_cases hf : (has.all fun y => !(decide ((n - (k + 1), y) ∈ C) || decide ((y, n - (k + 1)) ∈ C))) = true
    · rw [if_pos hf]
      rw [List.all_eq_true] at hf
      have hf' : ∀ y ∈ has, (n - (k + 1), y) ∉ C ∧ (y, n - (k + 1)) ∉ C := fun y hy => by
        have := hf y hy
        simpa using this
      have B := ih (by omega) (has ++ [n - (k + 1)]) (by
        rw [List.nodup_append]
        refine ⟨h1, by simp, fun a ha b hb e => ?_⟩
        have := h2 a ha
        rw [List.mem_singleton] at hb
        omega) (fun x hx => by
        rcases List.mem_append.1 hx with hx | hx
        · have := h2 x hx; omega
        · rw [List.mem_singleton] at hx; omega) (fun x hx y hy => by
        rcases List.mem_append.1 hx with hx | hx <;> rcases List.mem_append.1 hy with hy | hy
        · exact h3 x hx y hy
        · rw [List.mem_singleton] at hy; subst hy; exact (hf' x hx).2
        · rw [List.mem_singleton] at hx; subst hx; exact (hf' y hy).1
        · rw [List.mem_singleton] at hx hy; subst hx hy; exact hr _)
      rcases Nat.le_total (wideF C n k has) (wideF C n k (has ++ [n - (k + 1)])) with h | h
      · rw [Nat.max_eq_right h]; exact B
      · rw [Nat.max_eq_left h]; exact A
    · rw [if_neg hf]; exact A
theorem wide_dn (S : Nat → Bool) (hS : ∀ x y, S x = true → S y = true → (x, y) ∉ C) : ∀ (k : Nat), k ≤ n → ∀ has : List Nat, (∀ x ∈ has, S x = true) → has.length + ((List.range k).countP fun j => S (n - (j + 1))) ≤ wideF C n k has := by
  intro k
  induction k with
  | zero => intro _ has _; show has.length + _ ≤ has.length; simp
  | succ k ih =>
    intro hk has h1
    have A := ih (by omega) has h1
    rw [List.range_succ, List.countP_append, List.countP_singleton]
    unfold wideF
    by_cases hs : S (n - (k + 1)) = true
    · rw [if_pos hs]
      have hf : (has.all fun y => !(decide ((n - (k + 1), y) ∈ C) || decide ((y, n - (k + 1)) ∈ C))) = true := by
        rw [List.all_eq_true]
        intro y hy
        rw [decide_eq_false (hS _ _ hs (h1 y hy)), decide_eq_false (hS _ _ (h1 y hy) hs)]; rfl
      rw [if_pos hf]
      have B := ih (by omega) (has ++ [n - (k + 1)]) (fun x hx => by
        rcases List.mem_append.1 hx with hx | hx
        · exact h1 x hx
        · rw [List.mem_singleton] at hx; subst hx; exact hs)
      rw [List.length_append, List.length_singleton] at B
      have := Nat.le_max_right (wideF C n k has) (wideF C n k (has ++ [n - (k + 1)]))
      omega
    · rw [if_neg hs]
      split
      · have := Nat.le_max_left (wideF C n k has) (wideF C n k (has ++ [n - (k + 1)]))
        omega
      · omega
/-- DILWORTH: as many points as rows. -/
theorem wide_max (hg : Good n C) (ht : ∀ a b c, (a, b) ∈ C → (b, c) ∈ C → (a, c) ∈ C) (hr : ∀ i, (i, i) ∉ C) {m : Nat} (hm : MN C m) : wideF C n n [] + m = n := by
  obtain ⟨T, h1, h2, h3, h4⟩ := wide_up (C := C) (n := n) hr n (Nat.le_refl n) [] (by simp) (by simp) (by simp)
  have g1 := anti_le hg ht hm h1 h2 h3
  obtain ⟨_, A, B, h5, h6⟩ := hm
  have g2 := wide_dn (C := C) (n := n) (fun x => !decide (x ∈ A) && !decide (x ∈ B)) (fun x y hx hy hxy => by
    rw [Bool.and_eq_true, Bool.not_eq_true', Bool.not_eq_true', decide_eq_false_iff_not, decide_eq_false_iff_not] at hx hy
    rcases h5 _ hxy with h | h
    · exact hx.1 h
    · exact hy.2 h) n (Nat.le_refl n) [] (by simp)
  have hcount : n ≤ ((List.range n).countP fun j => (!decide (n - (j + 1) ∈ A) && !decide (n - (j + 1) ∈ B))) + (A.length + B.length) := by
    have hs := List.length_eq_countP_add_countP (fun j => !decide (n - (j + 1) ∈ A) && !decide (n - (j + 1) ∈ B)) (l := List.range n)
    rw [List.length_range] at hs
    have hp : ((List.range n).countP fun j => decide ¬ (!decide (n - (j + 1) ∈ A) && !decide (n - (j + 1) ∈ B)) = true) ≤ (A ++ B).length := by
      rw [List.countP_eq_length_filter]
      have := pig (L := ((List.range n).filter fun j => decide ¬ (!decide (n - (j + 1) ∈ A) && !decide (n - (j + 1) ∈ B)) = true).map fun j => n - (j + 1)) (M := A ++ B) (by
        rw [List.Nodup, List.pairwise_map]
        refine List.Pairwise.imp_of_mem ?_ (List.Pairwise.filter _ List.nodup_range)
        intro a b ha hb hab e
        have ha := List.mem_range.1 (List.mem_filter.1 ha).1
        have hb := List.mem_range.1 (List.mem_filter.1 hb).1
        omega) (fun x hx => by
        obtain ⟨j, hj, rfl⟩ := List.mem_map.1 hx
        have := (List.mem_filter.1 hj).2
        rw [List.mem_append]
        by_cases ha : n - (j + 1) ∈ A
        · exact .inl ha
        · by_cases hb : n - (j + 1) ∈ B
          · exact .inr hb
          · simp [ha, hb] at this)
      rw [List.length_map] at this
      exact this
    rw [List.length_append] at hp
    omega
  simp only [List.length_nil, Nat.zero_add] at g2
  omega
end
end Go.Proofs
