/- Part M 1 of what the proof of TopoSays stands on: plain facts of graphs and sets, with no program in sight. -/
import Derived.Test.YtblhpmhfhpmifaaDoorAw2
set_option linter.unusedVariables false
set_option linter.unusedSimpArgs false
namespace Go.Proofs
open Go.Aw
set_option linter.unusedSimpArgs false
def pts (s : Nat) : List Nat := (List.range 64).filter fun i => s.testBit i
def ptsI (s : Nat) : List Int := (pts s).map Int.ofNat

theorem pts_len (s : Nat) : (pts s).length ≤ 64 := by
  have := List.length_filter_le (fun i => s.testBit i) (List.range 64)
  simpa [pts] using this
theorem ptsI_len (s : Nat) : (ptsI s).length ≤ 64 := by simpa [ptsI] using pts_len s

def outF (s : List Nat) (p : Nat × Nat) : List Nat := s.set p.1 (s.getD p.1 default ||| 2 ^ p.2)
def outS (n : Nat) (l : List (Nat × Nat)) : List Nat := l.foldl outF (List.replicate n 0)
theorem outS_snoc (n : Nat) (l : List (Nat × Nat)) (p : Nat × Nat) : outS n (l ++ [p]) = outF (outS n l) p := by simp [outS]
theorem outS_len (n : Nat) (l : List (Nat × Nat)) : (outS n l).length = n := by
  unfold outS
  generalize h : List.replicate n 0 = s
  have hs : s.length = n := by rw [← h]; simp
  clear h
  induction l generalizing s with
  | nil => exact hs
  | cons p l ih => exact ih _ (by simp [outF, hs])
theorem outS_lt (n : Nat) (l : List (Nat × Nat)) (hl : ∀ p ∈ l, p.2 < 64) : ∀ x ∈ outS n l, x < 2 ^ 64 := by
  unfold outS
  generalize h : List.replicate n 0 = s
  have hs : ∀ x ∈ s, x < 2 ^ 64 := by rw [← h]; intro x hx; obtain ⟨_, rfl⟩ := List.mem_replicate.1 hx; decide
  clear h
  induction l generalizing s with
  | nil => exact hs
  | cons p l ih =>
    refine ih (fun q hq => hl q (by simp [hq])) _ (fun x hx => ?_)
    rcases List.mem_or_eq_of_mem_set hx with h | rfl
    · exact hs x h
    · refine Nat.or_lt_two_pow ?_ (Nat.pow_lt_pow_right (by omega) (hl p (by simp)))
      rw [List.getD_eq_getElem?_getD]
      cases hx : s[p.1]? with
      | none => decide
      | some y => exact hs y (List.mem_of_getElem? hx)

theorem prefix_map {pre : List Int} {x : Int} {l : List Nat} (h : pre ++ [x] <+: l.map Int.ofNat) : ∃ (p : List Nat) (c : Nat), pre = p.map Int.ofNat ∧ x = (c : Int) ∧ p ++ [c] <+: l := by
  obtain ⟨t, ht⟩ := h
  have hl := congrArg List.length ht
  simp at hl
  refine ⟨l.take pre.length, l.getD pre.length default, ?_, ?_, ?_⟩
  · have := congrArg (List.take pre.length) ht
    rw [← List.map_take] at this
    rw [← this]; simp
  · have := congrArg (fun l => l[pre.length]?) ht
    have hlt : pre.length < l.length := by omega
    simp [hlt] at this
    rw [List.getD_eq_getElem?_getD, List.getElem?_eq_getElem hlt]
    exact this
  · rw [← take_succ_getD (by omega)]
    exact List.take_prefix _ _
theorem ofNat_inj : ∀ {a b : List Nat}, a.map Int.ofNat = b.map Int.ofNat → a = b := by
  intro a
  induction a with
  | nil => intro b h; cases b with
    | nil => rfl
    | cons y b => simp at h
  | cons x a ih => intro b h; cases b with
    | nil => simp at h
    | cons y b =>
      simp only [List.map_cons, List.cons.injEq] at h
      rw [ih h.2, Int.ofNat_inj.1 h.1]
theorem pts_mem (s c : Nat) : c ∈ pts s ↔ c < 64 ∧ s.testBit c = true := by simp [pts]

theorem low_lt {w n c : Nat} (h : w < 2 ^ n) (hc : w.testBit c = true) : c < n := by
  rcases Nat.lt_or_ge c n with h' | h'
  · exact h'
  · rw [Nat.testBit_lt_two_pow (Nat.lt_of_lt_of_le h (Nat.pow_le_pow_right (by omega) h'))] at hc; cases hc
theorem cnt_add (s d : Nat) (h : ∀ j, d.testBit j = true → s.testBit j = false) : cnt (addAll s (pts d)) = cnt s + (pts d).length := by
  have key : ∀ L : List Nat, (∀ j ∈ L, j < 64) → (L.countP fun j => (addAll s (pts d)).testBit j) = (L.countP fun j => s.testBit j) + (L.filter fun j => d.testBit j).length := by
    intro L
    induction L with
    | nil => intro _; rfl
    | cons j L ih =>
      intro hj
      rw [List.countP_cons, List.countP_cons, ih (fun x hx => hj x (by simp [hx])), List.filter_cons]
      have hb : (addAll s (pts d)).testBit j = (s.testBit j || d.testBit j) := by
        rw [Bool.eq_iff_iff, addAll_bit, pts_mem, Bool.or_eq_true]
        have := hj j (by simp)
        constructor
        · rintro (h | ⟨_, h⟩)
          · exact .inl h
          · exact .inr h
        · rintro (h | h)
          · exact .inl h
          · exact .inr ⟨this, h⟩
      have := h j
      cases h1 : s.testBit j <;> cases h2 : d.testBit j <;> simp [hb, h1, h2] at this ⊢ <;> omega
  exact key (List.range 64) (fun j hj => by simpa using hj)

/-! Plain facts of graphs. -/
theorem set_getD {α : Type} [Inhabited α] (s : List α) (i j : Nat) (x : α) : (s.set i x).getD j default = if i = j ∧ j < s.length then x else s.getD j default := by
  rw [List.getD_eq_getElem?_getD, List.getD_eq_getElem?_getD, List.getElem?_set]
  by_cases h : i = j
  · subst h
    by_cases h2 : i < s.length
    · simp [h2]
    · simp [h2]
  · simp [h]
theorem two_pow_bit (i j : Nat) : (2 ^ i).testBit j = true ↔ i = j := by
  by_cases h : i = j
  · subst h; simp [Nat.testBit_two_pow_self]
  · simp [Nat.testBit_two_pow_of_ne h, h]
theorem outS_bit (n : Nat) (l : List (Nat × Nat)) (a b : Nat) : ((outS n l).getD a default).testBit b = true ↔ a < n ∧ (a, b) ∈ l := by
  have : ∀ s : List Nat, s.length = n → (((l.foldl outF s).getD a default).testBit b = true ↔ (s.getD a default).testBit b = true ∨ (a < n ∧ (a, b) ∈ l)) := by
    induction l with
    | nil => intro s _; simp
    | cons p l ih =>
      intro s hs
      rw [List.foldl_cons, ih _ (by simp [outF, hs])]
      unfold outF
      rw [set_getD, hs]
      by_cases h : p.1 = a ∧ a < n
      · rw [if_pos h]
        obtain ⟨rfl, h2⟩ := h
        rw [Nat.testBit_or, Bool.or_eq_true, two_pow_bit, List.mem_cons]
        constructor
        · rintro ((h | rfl) | h)
          · exact .inl h
          · exact .inr ⟨h2, .inl rfl⟩
          · exact .inr ⟨h.1, .inr h.2⟩
        · rintro (h | ⟨_, h | h⟩)
          · exact .inl (.inl h)
          · exact .inl (.inr (by rw [← h]))
          · exact .inr ⟨h2, h⟩
      · rw [if_neg h, List.mem_cons]
        constructor
        · rintro (h | h)
          · exact .inl h
          · exact .inr ⟨h.1, .inr h.2⟩
        · rintro (h' | ⟨h1, h' | h'⟩)
          · exact .inl h'
          · exact absurd ⟨by rw [← h'], h1⟩ h
          · exact .inr ⟨h1, h'⟩
  have h0 := this (List.replicate n 0) (by simp)
  rw [outS, h0]
  have : ((List.replicate n 0).getD a default).testBit b = false := by
    rw [List.getD_eq_getElem?_getD, List.getElem?_replicate]
    split <;> simp
  rw [this]; simp
/-- Ways. -/
inductive Path (l : List (Nat × Nat)) (a : Nat) : Nat → Prop
  | refl : Path l a a
  | step {b c : Nat} (h : Path l a b) (h1 : (b, c) ∈ l) : Path l a c
theorem Path.trans {l : List (Nat × Nat)} {a b c : Nat} (h : Path l a b) (k : Path l b c) : Path l a c := by
  induction k with
  | refl => exact h
  | step _ h1 ih => exact .step ih h1
theorem Path.one {l : List (Nat × Nat)} {a b : Nat} (h : (a, b) ∈ l) : Path l a b := .step .refl h
theorem Path.mono {l l' : List (Nat × Nat)} (hl : ∀ p ∈ l, p ∈ l') {a b : Nat} (h : Path l a b) : Path l' a b := by
  induction h with
  | refl => exact .refl
  | step _ h1 ih => exact .step ih (hl _ h1)
def flip (p : Nat × Nat) : Nat × Nat := (p.2, p.1)
theorem flip_mem {l : List (Nat × Nat)} {a b : Nat} : (a, b) ∈ l.map flip ↔ (b, a) ∈ l := by
  simp only [List.mem_map, flip]
  constructor
  · rintro ⟨⟨x, y⟩, h, e⟩
    cases e
    exact h
  · intro h; exact ⟨_, h, rfl⟩
theorem Path.flip {l : List (Nat × Nat)} {a b : Nat} (h : Path l a b) : Path (l.map flip) b a := by
  induction h with
  | refl => exact .refl
  | step _ h1 ih => exact (Path.one (flip_mem.2 h1)).trans ih
theorem Path.unflip {l : List (Nat × Nat)} {a b : Nat} (h : Path (l.map Go.Proofs.flip) a b) : Path l b a := by
  induction h with
  | refl => exact .refl
  | step _ h1 ih => exact (Path.one (flip_mem.1 h1)).trans ih
theorem path_flip {l : List (Nat × Nat)} {a b : Nat} : Path (l.map flip) a b ↔ Path l b a := ⟨Path.unflip, Path.flip⟩
/-- Lines between n points. -/
def Good (n : Nat) (l : List (Nat × Nat)) : Prop := ∀ p ∈ l, p.1 < n ∧ p.2 < n
theorem Good.flip {n : Nat} {l : List (Nat × Nat)} (h : Good n l) : Good n (l.map flip) := by
  intro p hp
  obtain ⟨q, hq, rfl⟩ := List.mem_map.1 hp
  exact ⟨(h q hq).2, (h q hq).1⟩
theorem Path.lt {n : Nat} {l : List (Nat × Nat)} (hg : Good n l) {a b : Nat} (ha : a < n) (h : Path l a b) : b < n := by
  cases h with
  | refl => exact ha
  | step _ h1 => exact (hg _ h1).2
theorem below_bit (n j : Nat) : (2 ^ n - 1).testBit j = true ↔ j < n := by
  rw [Nat.testBit_two_pow_sub_one]; simp
theorem rch_path {n : Nat} {l : List (Nat × Nat)} (hg : Good n l) {a b : Nat} (ha : a < n) : Rch (outS n l) (2 ^ n - 1) a b ↔ Path l a b := by
  constructor
  · intro h
    induction h with
    | refl => exact .refl
    | step _ h1 _ ih => exact .step ih ((outS_bit _ _ _ _).1 h1).2
  · intro h
    induction h with
    | refl => exact .refl
    | step h h1 ih => exact .step ih ((outS_bit _ _ _ _).2 ⟨h.lt hg ha, h1⟩) ((below_bit _ _).2 (hg _ h1).2)
theorem outS_lt' {n : Nat} {l : List (Nat × Nat)} (hn : n ≤ 64) (hg : Good n l) : ∀ x ∈ outS n l, x < 2 ^ 64 := outS_lt n l fun p hp => Nat.lt_of_lt_of_le (hg p hp).2 hn
/-- The points to which ways go. -/
def rs (n : Nat) (l : List (Nat × Nat)) (a : Nat) : Nat := reach (outS n l) (2 ^ n - 1) a
theorem rs_bit {n : Nat} {l : List (Nat × Nat)} (hn : n ≤ 64) (hg : Good n l) {a : Nat} (ha : a < n) (b : Nat) : (rs n l a).testBit b = true ↔ Path l a b := by
  rw [rs, reach_bit (outS_lt' hn hg) (by omega), rch_path hg ha]
theorem rs_lt {n : Nat} {l : List (Nat × Nat)} (hn : n ≤ 64) (hg : Good n l) {a : Nat} (ha : a < n) : rs n l a < 2 ^ 64 := reach_lt (outS_lt' hn hg) (by omega)
/-- The least point. -/
def low (s : Nat) : Nat := (pts s).getD 0 default
theorem low_spec {s i : Nat} (h : s.testBit i = true) (hi : i < 64) : pts s ≠ [] ∧ s.testBit (low s) = true ∧ low s ≤ i := by
  have hm : i ∈ pts s := (pts_mem s i).2 ⟨hi, h⟩
  have hne : pts s ≠ [] := List.ne_nil_of_mem hm
  refine ⟨hne, ?_⟩
  have hs : (pts s).Pairwise (· < ·) := List.Pairwise.filter _ List.pairwise_lt_range
  unfold low
  cases hp : pts s with
  | nil => exact absurd hp hne
  | cons x t =>
    rw [hp] at hm hs
    have hx : x ∈ pts s := by rw [hp]; simp
    refine ⟨((pts_mem s x).1 hx).2, ?_⟩
    rcases List.mem_cons.1 hm with rfl | hm
    · exact Nat.le_refl _
    · exact Nat.le_of_lt ((List.pairwise_cons.1 hs).1 i hm)
theorem low_eq {s t : Nat} (h : ∀ j, s.testBit j = true ↔ t.testBit j = true) : low s = low t := by
  have : s = t := bits_eq fun j => by
    have := h j
    cases h1 : s.testBit j <;> cases h2 : t.testBit j <;> simp [h1, h2] at this <;> rfl
  rw [this]
end Go.Proofs

namespace Go.Proofs
open Go.Aw
/-- Ways of a line, or several. -/
def Path1 (l : List (Nat × Nat)) (a b : Nat) : Prop := ∃ c, (a, c) ∈ l ∧ Path l c b
theorem Path1.path {l : List (Nat × Nat)} {a b : Nat} (h : Path1 l a b) : Path l a b := by
  obtain ⟨c, h1, h2⟩ := h
  exact (Path.one h1).trans h2
theorem Path1.trans {l : List (Nat × Nat)} {a b c : Nat} (h : Path1 l a b) (k : Path l b c) : Path1 l a c := by
  obtain ⟨d, h1, h2⟩ := h
  exact ⟨d, h1, h2.trans k⟩
theorem Path.cases1 {l : List (Nat × Nat)} {a b : Nat} (h : Path l a b) : a = b ∨ Path1 l a b := by
  induction h with
  | refl => exact .inl rfl
  | step _ h1 ih =>
    rcases ih with rfl | h
    · exact .inr ⟨_, h1, .refl⟩
    · exact .inr (h.trans (.one h1))
theorem Path.trans1 {l : List (Nat × Nat)} {a b c : Nat} (h : Path l a b) (k : Path1 l b c) : Path1 l a c := by
  rcases h.cases1 with rfl | h
  · exact k
  · exact h.trans k.path
theorem Path1.snoc {l : List (Nat × Nat)} {a b c : Nat} (h : Path l a b) (k : (b, c) ∈ l) : Path1 l a c := h.trans1 ⟨c, k, .refl⟩
theorem Path1.mono {l l' : List (Nat × Nat)} (hl : ∀ p ∈ l, p ∈ l') {a b : Nat} (h : Path1 l a b) : Path1 l' a b := by
  obtain ⟨c, h1, h2⟩ := h
  exact ⟨c, hl _ h1, h2.mono hl⟩
theorem Path1.last {l : List (Nat × Nat)} {a b : Nat} (h : Path1 l a b) : ∃ c, Path l a c ∧ (c, b) ∈ l := by
  obtain ⟨c, h1, h2⟩ := h
  cases h2 with
  | refl => exact ⟨a, .refl, h1⟩
  | step h2 h3 => exact ⟨_, (Path.one h1).trans h2, h3⟩
theorem path1_flip {l : List (Nat × Nat)} {a b : Nat} : Path1 (l.map flip) a b ↔ Path1 l b a := by
  have key : ∀ (l : List (Nat × Nat)) (a b : Nat), Path1 (l.map Go.Proofs.flip) a b → Path1 l b a := by
    intro l a b ⟨c, h1, h2⟩
    exact Path1.snoc h2.unflip (flip_mem.1 h1)
  refine ⟨key l a b, fun h => ?_⟩
  have hf : (l.map Go.Proofs.flip).map Go.Proofs.flip = l := by
    rw [List.map_map]
    conv => rhs; rw [← List.map_id l]
    rfl
  refine key (l.map Go.Proofs.flip) b a ?_
  rw [hf]; exact h
theorem Path1.lt {n : Nat} {l : List (Nat × Nat)} (hg : Good n l) {a b : Nat} (h : Path1 l a b) : a < n ∧ b < n := by
  obtain ⟨c, h1, h2⟩ := h
  exact ⟨(hg _ h1).1, h2.lt hg (hg _ h1).2⟩
def warI (k : Nat) (s : List Nat) (i : Nat) : List Nat := if (s.getD i default).testBit k then s.set i (s.getD i default ||| s.getD k default) else s
def warK (n : Nat) (s : List Nat) (k : Nat) : List Nat := (List.range n).foldl (warI k) s
def warS (n : Nat) (s : List Nat) (m : Nat) : List Nat := (List.range m).foldl (warK n) s
def war (n : Nat) (l : List (Nat × Nat)) : List Nat := warS n (outS n l) n
theorem warI_len (k : Nat) (s : List Nat) (i : Nat) : (warI k s i).length = s.length := by unfold warI; split <;> simp
theorem range_foldl {α : Type} (f : α → Nat → α) (a : α) (n : Nat) : (List.range (n + 1)).foldl f a = f ((List.range n).foldl f a) n := by rw [List.range_succ, List.foldl_append]; rfl
def wOr (s : List Nat) (k i : Nat) : Nat := if (s.getD i default).testBit k then s.getD i default ||| s.getD k default else s.getD i default
theorem warI_get (k : Nat) (s : List Nat) (i j : Nat) (hi : i < s.length) : (warI k s i).getD j default = if j = i then wOr s k i else s.getD j default := by
  unfold warI wOr
  split
  · rw [set_getD]
    by_cases h : i = j
    · subst h; simp [hi]
    · rw [if_neg (by simp [h]), if_neg (fun e => h e.symm)]
  · split
    · rename_i h; rw [h]
    · rfl
theorem warIs_get (k : Nat) (s : List Nat) (m : Nat) (hm : m ≤ s.length) : ((List.range m).foldl (warI k) s).length = s.length ∧ ∀ j, ((List.range m).foldl (warI k) s).getD j default = if j < m then wOr s k j else s.getD j default := by
  induction m with
  | zero => simp
  | succ m ih =>
    obtain ⟨h1, h2⟩ := ih (by omega)
    rw [range_foldl]
    refine ⟨by rw [warI_len, h1], fun j => ?_⟩
    rw [warI_get _ _ _ _ (by rw [h1]; omega)]
    have hk : ((List.range m).foldl (warI k) s).getD k default = s.getD k default := by
      rw [h2]
      split
      · unfold wOr; split <;> simp
      · rfl
    by_cases hj : j = m
    · subst hj
      rw [if_pos rfl, if_pos (Nat.lt_succ_self j)]
      have h3 := h2 j
      rw [if_neg (Nat.lt_irrefl j)] at h3
      unfold wOr
      rw [hk, h3]
    · rw [if_neg hj, h2]
      by_cases h3 : j < m
      · rw [if_pos h3, if_pos (by omega)]
      · rw [if_neg h3, if_neg (by omega)]
theorem warK_get (n : Nat) (s : List Nat) (k : Nat) (hs : s.length = n) : (warK n s k).length = n ∧ ∀ j, (warK n s k).getD j default = wOr s k j := by
  obtain ⟨h1, h2⟩ := warIs_get k s n (by omega)
  refine ⟨by rw [warK, h1, hs], fun j => ?_⟩
  rw [warK, h2]
  split
  · rfl
  · have : s.getD j default = 0 := by rw [List.getD_eq_getElem?_getD, List.getElem?_eq_none (by omega)]; rfl
    unfold wOr
    rw [this]
    simp
/-- Warshall's relation. -/
def WR (l : List (Nat × Nat)) : Nat → Nat → Nat → Prop
  | 0, i, j => (i, j) ∈ l
  | k + 1, i, j => WR l k i j ∨ (WR l k i k ∧ WR l k k j)
theorem WR.sound {l : List (Nat × Nat)} {k i j : Nat} (h : WR l k i j) : Path1 l i j := by
  induction k generalizing i j with
  | zero => exact ⟨j, h, .refl⟩
  | succ k ih =>
    rcases h with h | ⟨h1, h2⟩
    · exact ih h
    · exact (ih h1).trans (ih h2).path
theorem WR.tr {l : List (Nat × Nat)} {k : Nat} : ∀ {i m j : Nat}, m < k → WR l k i m → WR l k m j → WR l k i j := by
  induction k with
  | zero => intro i m j h; omega
  | succ k ih =>
    intro i m j hm h1 h2
    by_cases hk : m < k
    · rcases h1 with h1 | ⟨h1, h1'⟩ <;> rcases h2 with h2 | ⟨h2, h2'⟩
      · exact .inl (ih hk h1 h2)
      · exact .inr ⟨ih hk h1 h2, h2'⟩
      · exact .inr ⟨h1, ih hk h1' h2⟩
      · exact .inr ⟨h1, h2'⟩
    · obtain rfl : m = k := by omega
      have a : WR l m i m := h1.elim id (fun h => h.1)
      have b : WR l m m j := h2.elim id (fun h => h.2)
      exact .inr ⟨a, b⟩
theorem WR.base {l : List (Nat × Nat)} {i j : Nat} (h : (i, j) ∈ l) : ∀ k, WR l k i j
  | 0 => h
  | k + 1 => .inl (WR.base h k)
theorem WR.all {n : Nat} {l : List (Nat × Nat)} (hg : Good n l) {i j : Nat} : WR l n i j ↔ Path1 l i j := by
  refine ⟨WR.sound, ?_⟩
  rintro ⟨c, h1, h2⟩
  have : WR l n i j ∧ j < n := by
    induction h2 with
    | refl => exact ⟨.base h1 n, (hg _ h1).2⟩
    | step _ h3 ih => exact ⟨.tr ih.2 ih.1 (.base h3 n), (hg _ h3).2⟩
  exact this.1
theorem warS_get (n : Nat) (l : List (Nat × Nat)) (m : Nat) (hg : Good n l) : (warS n (outS n l) m).length = n ∧ ∀ i j, ((warS n (outS n l) m).getD i default).testBit j = true ↔ WR l m i j := by
  induction m with
  | zero =>
    refine ⟨by simpa [warS] using outS_len n l, fun i j => ?_⟩
    show ((outS n l).getD i default).testBit j = true ↔ _
    rw [outS_bit]
    exact ⟨fun h => h.2, fun h => ⟨(hg _ h).1, h⟩⟩
  | succ m ih =>
    obtain ⟨h1, h2⟩ := ih
    have : warS n (outS n l) (m + 1) = warK n (warS n (outS n l) m) m := range_foldl _ _ _
    rw [this]
    obtain ⟨h3, h4⟩ := warK_get n _ m h1
    refine ⟨h3, fun i j => ?_⟩
    rw [h4]
    show _ ↔ WR l m i j ∨ (WR l m i m ∧ WR l m m j)
    unfold wOr
    rw [← h2, ← h2, ← h2]
    split
    · rename_i h; rw [Nat.testBit_or, Bool.or_eq_true]
      exact ⟨fun h' => h'.elim .inl (fun h2 => .inr ⟨h, h2⟩), fun h' => h'.elim .inl (fun h2 => .inr h2.2)⟩
    · rename_i h
      exact ⟨.inl, fun h' => h'.elim id (fun h2 => absurd h2.1 h)⟩
theorem war_len {n : Nat} {l : List (Nat × Nat)} (hg : Good n l) : (war n l).length = n := (warS_get n l n hg).1
theorem war_bit {n : Nat} {l : List (Nat × Nat)} (hg : Good n l) (i j : Nat) : ((war n l).getD i default).testBit j = true ↔ Path1 l i j := by
  rw [war, (warS_get n l n hg).2, WR.all hg]
end Go.Proofs

namespace Go.Proofs
open Go.Aw
/-- The least point there and back. -/
def part (n : Nat) (l : List (Nat × Nat)) (i : Nat) : Nat := low (rs n l i &&& rs n (l.map flip) i)
def strongP (n : Nat) (l : List (Nat × Nat)) : List Nat := (List.range n).map (part n l)
def Mut (l : List (Nat × Nat)) (a b : Nat) : Prop := Path l a b ∧ Path l b a
theorem Mut.refl (l : List (Nat × Nat)) (a : Nat) : Mut l a a := ⟨.refl, .refl⟩
theorem Mut.symm {l : List (Nat × Nat)} {a b : Nat} (h : Mut l a b) : Mut l b a := ⟨h.2, h.1⟩
theorem Mut.trans {l : List (Nat × Nat)} {a b c : Nat} (h : Mut l a b) (k : Mut l b c) : Mut l a c := ⟨h.1.trans k.1, k.2.trans h.2⟩
section
variable {n : Nat} {l : List (Nat × Nat)} (hn : n ≤ 64) (hg : Good n l)
include hn hg
theorem both_bit {i : Nat} (hi : i < n) (j : Nat) : (rs n l i &&& rs n (l.map flip) i).testBit j = true ↔ Mut l i j := by
  rw [Nat.testBit_and, Bool.and_eq_true, rs_bit hn hg hi, rs_bit hn hg.flip hi, path_flip]
  exact Iff.rfl
theorem part_spec {i j : Nat} (hi : i < n) (h : Mut l i j) : Mut l i (part n l i) ∧ part n l i ≤ j := by
  have hj : j < n := h.1.lt hg hi
  obtain ⟨_, h1, h2⟩ := low_spec ((both_bit hn hg hi j).2 h) (by omega)
  exact ⟨(both_bit hn hg hi _).1 h1, h2⟩
theorem part_mut {i : Nat} (hi : i < n) : Mut l i (part n l i) ∧ part n l i ≤ i := part_spec hn hg hi (.refl l i)
theorem part_pts {i : Nat} (hi : i < n) : pts (rs n l i &&& rs n (l.map flip) i) ≠ [] := (low_spec ((both_bit hn hg hi i).2 (.refl l i)) (by omega)).1
theorem part_iff {a b : Nat} (ha : a < n) (hb : b < n) : part n l a = part n l b ↔ Mut l a b := by
  constructor
  · intro h
    have h1 := (part_mut hn hg ha).1
    have h2 := (part_mut hn hg hb).1
    rw [h] at h1
    exact h1.trans h2.symm
  · intro h
    refine low_eq fun j => ?_
    rw [both_bit hn hg ha, both_bit hn hg hb]
    exact ⟨fun k => h.symm.trans k, fun k => h.trans k⟩
theorem both_lt {i : Nat} (hi : i < n) : rs n l i < 2 ^ 64 ∧ rs n (l.map flip) i < 2 ^ 64 ∧ (rs n l i &&& rs n (l.map flip) i) < 2 ^ 64 :=
  ⟨rs_lt hn hg hi, rs_lt hn hg.flip hi, Nat.lt_of_le_of_lt Nat.and_le_left (rs_lt hn hg hi)⟩
end
theorem Path.congr {l l' : List (Nat × Nat)} (h : ∀ p, p ∈ l ↔ p ∈ l') {a b : Nat} : Path l a b ↔ Path l' a b := ⟨Path.mono fun p => (h p).1, Path.mono fun p => (h p).2⟩
theorem part_congr {n : Nat} {l l' : List (Nat × Nat)} (hn : n ≤ 64) (hg : Good n l) (hg' : Good n l') {i : Nat} (hi : i < n) (h : ∀ j, Mut l i j ↔ Mut l' i j) : part n l i = part n l' i :=
  low_eq fun j => by rw [both_bit hn hg hi, both_bit hn hg' hi]; exact h j
/-- Lines from the last one on, each the other way. -/
def backL (l : List (Nat × Nat)) : List (Nat × Nat) := l.reverse.map flip
theorem back_mem {l : List (Nat × Nat)} {p : Nat × Nat} : p ∈ backL l ↔ p ∈ l.map flip := by simp [backL]
theorem back_good {n : Nat} {l : List (Nat × Nat)} (h : Good n l) : Good n (backL l) := fun p hp => h.flip p (back_mem.1 hp)
theorem strong_turn {n : Nat} {l : List (Nat × Nat)} (hn : n ≤ 64) (hg : Good n l) : strongP n (backL l) = strongP n l := by
  refine List.map_congr_left fun i hi => part_congr hn (back_good hg) hg (by simpa using hi) fun j => ?_
  unfold Mut
  rw [Path.congr fun p => back_mem, Path.congr fun p => back_mem, path_flip, path_flip]
  exact ⟨fun h => ⟨h.2, h.1⟩, fun h => ⟨h.2, h.1⟩⟩
theorem strong_more {n : Nat} {l l' : List (Nat × Nat)} (hn : n ≤ 64) (hg : Good n l) (hg' : Good n l') (h : ∀ p ∈ l, p ∈ l') {a b : Nat} (ha : a < n) (hb : b < n) (e : part n l a = part n l b) : part n l' a = part n l' b := by
  rw [part_iff hn hg ha hb] at e
  rw [part_iff hn hg' ha hb]
  exact ⟨e.1.mono h, e.2.mono h⟩
end Go.Proofs

namespace Go.Proofs
open Go.Aw
/-- All that some points have. -/
def orL (next : List Nat) (L : List Nat) : Nat := L.foldl (fun u b => u ||| next.getD b default) 0
theorem orL_snoc (next L : List Nat) (b : Nat) : orL next (L ++ [b]) = orL next L ||| next.getD b default := by simp [orL]
theorem orL_bit (next L : List Nat) (j : Nat) : (orL next L).testBit j = true ↔ ∃ b ∈ L, (next.getD b default).testBit j = true := by
  unfold orL
  have : ∀ u : Nat, (L.foldl (fun u b => u ||| next.getD b default) u).testBit j = true ↔ u.testBit j = true ∨ ∃ b ∈ L, (next.getD b default).testBit j = true := by
    induction L with
    | nil => intro u; simp
    | cons b L ih =>
      intro u
      rw [List.foldl_cons, ih, Nat.testBit_or, Bool.or_eq_true]
      constructor
      · rintro ((h | h) | ⟨c, h1, h2⟩)
        · exact .inl h
        · exact .inr ⟨b, by simp, h⟩
        · exact .inr ⟨c, by simp [h1], h2⟩
      · rintro (h | ⟨c, h1, h2⟩)
        · exact .inl (.inl h)
        · rcases List.mem_cons.1 h1 with rfl | h1
          · exact .inl (.inr h2)
          · exact .inr ⟨c, h1, h2⟩
  rw [this]
  simp
theorem orL_lt {next : List Nat} (hn : ∀ x ∈ next, x < 2 ^ 64) (L : List Nat) : orL next L < 2 ^ 64 := by
  apply Nat.lt_pow_two_of_testBit
  intro i hi
  rw [← Bool.not_eq_true, orL_bit]
  rintro ⟨b, _, h⟩
  have : next.getD b default < 2 ^ 64 := by
    rw [List.getD_eq_getElem?_getD]
    cases hx : next[b]? with
    | none => decide
    | some y => exact hn y (List.mem_of_getElem? hx)
  rw [Nat.testBit_lt_two_pow (Nat.lt_of_lt_of_le this (Nat.pow_le_pow_right (by omega) hi))] at h
  cases h
/-- Those that can be next. -/
def freeS (next : List Nat) (left : Nat) : Nat := dif left (orL next (pts left))
def topoGo (next : List Nat) : Nat → Nat → List Nat → Option (List Nat)
  | 0, _, acc => some acc
  | m + 1, left, acc => if left = 0 then some acc else if pts (freeS next left) = [] then none else topoGo next m (dif left (2 ^ low (freeS next left))) (acc ++ [low (freeS next left)])
/-- The order of the points. -/
def topoO (n : Nat) (l : List (Nat × Nat)) : Option (List Nat) := topoGo (outS n l) n (2 ^ n - 1) []
/-- What holds of an order that is begun. -/
structure TI (n : Nat) (l : List (Nat × Nat)) (left : Nat) (acc : List Nat) : Prop where
  lt : ∀ i, left.testBit i = true → i < n
  all : ∀ i, i < n → (left.testBit i = true ∨ i ∈ acc)
  out : ∀ i ∈ acc, i < n ∧ left.testBit i = false
  nodup : acc.Nodup
  fwd : ∀ (a b : Nat), (a, b) ∈ l → ∀ (s t : List Nat), acc = s ++ b :: t → a ∈ s
theorem low_mem {s : Nat} (h : pts s ≠ []) : low s ∈ pts s := by
  unfold low
  cases hp : pts s with
  | nil => exact absurd hp h
  | cons x t => simp
theorem low_le {s i : Nat} (h : i ∈ pts s) : low s ≤ i := (low_spec ((pts_mem s i).1 h).2 ((pts_mem s i).1 h).1).2.2
theorem free_bit {n : Nat} {l : List (Nat × Nat)} {left : Nat} (hn : n ≤ 64) (hl : ∀ i, left.testBit i = true → i < n) (j : Nat) : (freeS (outS n l) left).testBit j = true ↔ left.testBit j = true ∧ ∀ a, left.testBit a = true → (a, j) ∉ l := by
  unfold freeS
  rw [dif_bit, Bool.and_eq_true, Bool.not_eq_true', ← Bool.not_eq_true, orL_bit]
  refine and_congr_right fun hj => ?_
  constructor
  · intro h a ha hm
    exact h ⟨a, (pts_mem _ _).2 ⟨by have := hl a ha; omega, ha⟩, (outS_bit _ _ _ _).2 ⟨hl a ha, hm⟩⟩
  · rintro h ⟨a, ha, hm⟩
    exact h a ((pts_mem _ _).1 ha).2 ((outS_bit _ _ _ _).1 hm).2
theorem TI.next {n : Nat} {l : List (Nat × Nat)} {left : Nat} {acc : List Nat} (hn : n ≤ 64) (hg : Good n l) (h : TI n l left acc) {j : Nat} (hj : (freeS (outS n l) left).testBit j = true) : TI n l (dif left (2 ^ j)) (acc ++ [j]) := by
  have hf := (free_bit hn h.lt j).1 hj
  have hb : ∀ i, (dif left (2 ^ j)).testBit i = true ↔ left.testBit i = true ∧ ¬ i = j := fun i => by
    rw [dif_bit, Bool.and_eq_true, Bool.not_eq_true', ← Bool.not_eq_true, two_pow_bit]
    exact and_congr_right fun _ => ⟨fun h e => h e.symm, fun h e => h e.symm⟩
  refine ⟨fun i hi => h.lt i ((hb i).1 hi).1, fun i hi => ?_, fun i hi => ?_, ?_, ?_⟩
  · rcases h.all i hi with h1 | h1
    · by_cases e : i = j
      · exact .inr (by simp [e])
      · exact .inl ((hb i).2 ⟨h1, e⟩)
    · exact .inr (by simp [h1])
  · rw [← Bool.not_eq_true, hb]
    rcases List.mem_append.1 hi with h1 | h1
    · obtain ⟨h2, h3⟩ := h.out i h1
      exact ⟨h2, fun h' => by rw [h3] at h'; cases h'.1⟩
    · obtain rfl := List.mem_singleton.1 h1
      exact ⟨h.lt i hf.1, fun h' => h'.2 rfl⟩
  · rw [List.nodup_append]
    refine ⟨h.nodup, by simp, fun a ha b hb e => ?_⟩
    obtain rfl := List.mem_singleton.1 hb
    subst e
    have := (h.out a ha).2
    rw [hf.1] at this; cases this
  · intro a b hab s t e
    rcases List.eq_nil_or_concat t with rfl | ⟨t', x, rfl⟩
    · have e' := congrArg List.reverse e
      simp at e'
      obtain ⟨rfl, rfl⟩ := e'
      rcases h.all a (hg _ hab).1 with h1 | h1
      · exact absurd hab (hf.2 a h1)
      · exact h1
    · have e' : acc ++ [j] = (s ++ b :: t') ++ [x] := by rw [e]; simp
      obtain ⟨e1, _⟩ := List.append_inj' e' rfl
      exact h.fwd a b hab s t' e1
theorem TI.start (n : Nat) (l : List (Nat × Nat)) : TI n l (2 ^ n - 1) [] :=
  ⟨fun i hi => (below_bit n i).1 hi, fun i hi => .inl ((below_bit n i).2 hi), fun i hi => by simp at hi, List.nodup_nil, fun a b _ s t e => by simp at e⟩
/-- How many bits are left. -/
theorem pts_nil {s : Nat} {n : Nat} (hn : n ≤ 64) (hl : ∀ i, s.testBit i = true → i < n) : pts s = [] ↔ s = 0 := by
  constructor
  · intro h
    apply Nat.eq_of_testBit_eq
    intro i
    rw [Nat.zero_testBit, ← Bool.not_eq_true]
    intro hi
    have : i ∈ pts s := (pts_mem s i).2 ⟨by have := hl i hi; omega, hi⟩
    rw [h] at this; cases this
  · rintro rfl
    unfold pts
    rw [List.filter_eq_nil_iff]
    intro a _; simp
theorem pig {α : Type} [BEq α] [LawfulBEq α] : ∀ {L M : List α}, L.Nodup → (∀ x ∈ L, x ∈ M) → L.length ≤ M.length := by
  intro L
  induction L with
  | nil => intro M _ _; simp
  | cons x L ih =>
    intro M hn hs
    obtain ⟨h1, h2⟩ := List.nodup_cons.1 hn
    have hx := hs x (by simp)
    have := ih (M := M.erase x) h2 (fun y hy => (List.mem_erase_of_ne (fun e : y = x => h1 (e ▸ hy))).2 (hs y (by simp [hy])))
    rw [List.length_erase_of_mem hx] at this
    have := List.length_pos_of_mem hx
    simp only [List.length_cons]; omega
/-- In a set of points each of which has one ahead in it there is a ring. -/
theorem ring_of_pred {l : List (Nat × Nat)} {S : Nat → Prop} {n : Nat} (hS : ∀ i, S i → i < n) (hp : ∀ i, S i → ∃ a, S a ∧ (a, i) ∈ l) {i : Nat} (hi : S i) : ∃ j, S j ∧ Path1 l j j := by
  refine Classical.byContradiction fun hno => ?_
  -- a list of points, each ahead of the next, without a point twice, however long
  have key : ∀ m : Nat, ∃ L : List Nat, L.length = m + 1 ∧ L.Nodup ∧ (∀ x ∈ L, S x) ∧ ∀ x t, L = x :: t → ∀ y ∈ t, Path1 l x y := by
    intro m
    induction m with
    | zero => exact ⟨[i], rfl, by simp, by simpa using hi, fun x t e y hy => by simp at e; rw [e.2] at hy; cases hy⟩
    | succ m ih =>
      obtain ⟨L, h1, h2, h3, h4⟩ := ih
      cases L with
      | nil => cases h1
      | cons x t =>
        obtain ⟨a, ha, hax⟩ := hp x (h3 x (by simp))
        have hall : ∀ y ∈ x :: t, Path1 l a y := fun y hy => by
          rcases List.mem_cons.1 hy with rfl | hy
          · exact ⟨_, hax, .refl⟩
          · exact ⟨_, hax, (h4 x t rfl y hy).path⟩
        refine ⟨a :: x :: t, by simpa using h1, List.nodup_cons.2 ⟨fun h => hno ⟨a, ha, hall a h⟩, h2⟩, fun y hy => ?_, fun x' t' e y hy => ?_⟩
        · rcases List.mem_cons.1 hy with rfl | hy
          · exact ha
          · exact h3 y hy
        · cases e; exact hall y hy
  obtain ⟨L, h1, h2, h3, _⟩ := key n
  have hsub : L ⊆ List.range n := fun x hx => by simpa using hS x (h3 x hx)
  have := pig h2 hsub
  simp at this; omega
theorem topoGo_spec {n : Nat} {l : List (Nat × Nat)} (hn : n ≤ 64) (hg : Good n l) : ∀ (m left : Nat) (acc : List Nat), acc.length + m = n → TI n l left acc →
    (∀ o, topoGo (outS n l) m left acc = some o → TI n l 0 o ∧ acc <+: o) ∧ (topoGo (outS n l) m left acc = none → ∃ i, i < n ∧ Path1 l i i) := by
  have z : ∀ left acc, acc.length = n → TI n l left acc → left = 0 := by
    intro left acc hl h
    apply Nat.eq_of_testBit_eq
    intro i
    rw [Nat.zero_testBit, ← Bool.not_eq_true]
    intro hi
    have hni : i ∉ acc := fun h' => by have := (h.out i h').2; rw [hi] at this; cases this
    have hsub : i :: acc ⊆ List.range n := fun x hx => by
      rcases List.mem_cons.1 hx with rfl | hx
      · simpa using h.lt x hi
      · simpa using (h.out x hx).1
    have := pig (List.nodup_cons.2 ⟨hni, h.nodup⟩) hsub
    simp at this; omega
  intro m
  induction m with
  | zero =>
    intro left acc hl h
    obtain rfl := z left acc (by omega) h
    exact ⟨fun o ho => (by cases ho; exact ⟨h, List.prefix_rfl⟩), fun h' => (by cases h')⟩
  | succ m ih =>
    intro left acc hl h
    unfold topoGo
    by_cases h0 : left = 0
    · subst h0
      rw [if_pos rfl]
      exact ⟨fun o ho => (by cases ho; exact ⟨h, List.prefix_rfl⟩), fun h' => (by cases h')⟩
    · rw [if_neg h0]
      by_cases hf : pts (freeS (outS n l) left) = []
      · rw [if_pos hf]
        refine ⟨fun o ho => (by cases ho), fun _ => ?_⟩
        obtain ⟨i, hi⟩ : ∃ i, left.testBit i = true := Classical.byContradiction fun hno => h0 (Nat.eq_of_testBit_eq fun i => by rw [Nat.zero_testBit, ← Bool.not_eq_true]; exact fun hi => hno ⟨i, hi⟩)
        obtain ⟨j, h1, h2⟩ := ring_of_pred (l := l) (S := fun i => left.testBit i = true) h.lt (fun i hi => Classical.byContradiction fun hno => by
          have : i ∈ pts (freeS (outS n l) left) := (pts_mem _ _).2 ⟨by have := h.lt i hi; omega, (free_bit hn h.lt i).2 ⟨hi, fun a ha hm => hno ⟨a, ha, hm⟩⟩⟩
          rw [hf] at this; cases this) hi
        exact ⟨j, h.lt j h1, h2⟩
      · rw [if_neg hf]
        obtain ⟨h1, h2⟩ := ih _ (acc ++ [low (freeS (outS n l) left)]) (by simp; omega) (h.next hn hg ((pts_mem _ _).1 (low_mem hf)).2)
        exact ⟨fun o ho => ⟨(h1 o ho).1, (List.prefix_append _ _).trans (h1 o ho).2⟩, h2⟩
theorem topo_some {n : Nat} {l : List (Nat × Nat)} (hn : n ≤ 64) (hg : Good n l) {o : List Nat} (h : topoO n l = some o) : TI n l 0 o := ((topoGo_spec hn hg n _ [] (by simp) (.start n l)).1 o h).1
theorem topo_none {n : Nat} {l : List (Nat × Nat)} (hn : n ≤ 64) (hg : Good n l) (h : topoO n l = none) : ∃ i, i < n ∧ Path1 l i i := (topoGo_spec hn hg n _ [] (by simp) (.start n l)).2 h
section
variable {n : Nat} {l : List (Nat × Nat)} {o : List Nat}
theorem TI.mem (h : TI n l 0 o) {i : Nat} : i ∈ o ↔ i < n := ⟨fun hi => (h.out i hi).1, fun hi => (h.all i hi).resolve_left (by simp)⟩
theorem TI.len (h : TI n l 0 o) : o.length = n := by
  have h1 := pig h.nodup (fun x hx => by simpa using h.mem.1 hx : ∀ x ∈ o, x ∈ List.range n)
  have h2 := pig List.nodup_range (fun x hx => h.mem.2 (by simpa using hx) : ∀ x ∈ List.range n, x ∈ o)
  simp at h1 h2; omega
/-- Each line goes on in the order. -/
theorem TI.idx (h : TI n l 0 o) (hg : Good n l) {a b : Nat} (hab : (a, b) ∈ l) : o.idxOf a < o.idxOf b := by
  have hb : b ∈ o := h.mem.2 (hg _ hab).2
  obtain ⟨s, t, e, hbs⟩ := List.append_of_mem hb |> fun ⟨s, t, e⟩ => (⟨s, t, e, by
    have := h.nodup; rw [e, List.nodup_append] at this
    exact fun hs => this.2.2 b hs b (by simp) rfl⟩ : ∃ s t, o = s ++ b :: t ∧ b ∉ s)
  have ha := h.fwd a b hab s t e
  rw [e, List.idxOf_append, List.idxOf_append, if_pos ha, if_neg hbs]
  have := List.idxOf_lt_length_of_mem ha
  omega
theorem TI.path (h : TI n l 0 o) (hg : Good n l) {a b : Nat} (hab : Path1 l a b) : o.idxOf a < o.idxOf b := by
  obtain ⟨c, h1, h2⟩ := hab
  have := h.idx hg h1
  have : ∀ x, Path l c x → o.idxOf c ≤ o.idxOf x := fun x hx => by
    induction hx with
    | refl => exact Nat.le_refl _
    | step _ h3 ih => have := h.idx hg h3; omega
  have := this b h2; omega
end
/-- There is no order just if some point comes back to itself. -/
theorem topo_iff {n : Nat} {l : List (Nat × Nat)} (hn : n ≤ 64) (hg : Good n l) : topoO n l = none ↔ ∃ i, Path1 l i i := by
  refine ⟨fun h => ?_, fun ⟨i, hi⟩ => ?_⟩
  · obtain ⟨i, _, h⟩ := topo_none hn hg h; exact ⟨i, h⟩
  · cases h : topoO n l with
    | none => rfl
    | some o => exact absurd ((topo_some hn hg h).path hg hi) (Nat.lt_irrefl _)
end Go.Proofs

namespace Go.Proofs
open Go.Aw
/-- The fewest lines. -/
def fewB (n : Nat) (l : List (Nat × Nat)) (i : Nat) : Nat := dif ((war n l).getD i default) (orL (war n l) (pts ((war n l).getD i default)))
def few (n : Nat) (l : List (Nat × Nat)) : List (Nat × Nat) := (List.range n).flatMap fun i => (pts (fewB n l i)).map fun j => (i, j)
section
variable {n : Nat} {l : List (Nat × Nat)} (hn : n ≤ 64) (hg : Good n l)
include hn hg
theorem war_pts (i j : Nat) : j ∈ pts ((war n l).getD i default) ↔ Path1 l i j := by
  rw [pts_mem, war_bit hg]
  exact ⟨fun h => h.2, fun h => ⟨by have := (h.lt hg).2; omega, h⟩⟩
theorem war_lt : ∀ x ∈ war n l, x < 2 ^ 64 := by
  intro x hx
  obtain ⟨i, hi, rfl⟩ := List.mem_iff_getElem.1 hx
  apply Nat.lt_pow_two_of_testBit
  intro j hj
  rw [← Bool.not_eq_true]
  intro h
  have h2 : ((war n l).getD i default).testBit j = true := by rw [List.getD_eq_getElem?_getD, List.getElem?_eq_getElem hi]; exact h
  rw [war_bit hg] at h2
  have := (h2.lt hg).2; omega
theorem few_mem (i j : Nat) : (i, j) ∈ few n l ↔ Path1 l i j ∧ ∀ k, Path1 l i k → ¬ Path1 l k j := by
  have hb : j ∈ pts (fewB n l i) ↔ Path1 l i j ∧ ∀ k, Path1 l i k → ¬ Path1 l k j := by
    rw [pts_mem, fewB, dif_bit, Bool.and_eq_true, Bool.not_eq_true', ← Bool.not_eq_true, orL_bit, war_bit hg]
    constructor
    · rintro ⟨_, h1, h2⟩
      exact ⟨h1, fun k h3 h4 => h2 ⟨k, (war_pts hn hg i k).2 h3, (war_bit hg k j).2 h4⟩⟩
    · rintro ⟨h1, h2⟩
      exact ⟨by have := (h1.lt hg).2; omega, h1, fun ⟨k, h3, h4⟩ => h2 k ((war_pts hn hg i k).1 h3) ((war_bit hg k j).1 h4)⟩
  rw [few, List.mem_flatMap, ← hb]
  constructor
  · rintro ⟨x, _, h⟩
    obtain ⟨y, hy, e⟩ := List.mem_map.1 h
    cases e
    exact hy
  · intro h
    exact ⟨i, by simpa using ((hb.1 h).1.lt hg).1, List.mem_map.2 ⟨j, h, rfl⟩⟩
theorem few_sub {p : Nat × Nat} (h : p ∈ few n l) : p ∈ l := by
  obtain ⟨i, j⟩ := p
  obtain ⟨⟨c, h1, h2⟩, h3⟩ := (few_mem hn hg i j).1 h
  rcases h2.cases1 with rfl | h2
  · exact h1
  · exact absurd h2 (h3 c ⟨c, h1, .refl⟩)
theorem few_good : Good n (few n l) := fun p hp => hg p (few_sub hn hg hp)
/-- The fewest lines have the same ways. -/
theorem few_path {o : List Nat} (ho : TI n l 0 o) {i j : Nat} : Path1 (few n l) i j ↔ Path1 l i j := by
  refine ⟨fun h => h.mono fun p hp => few_sub hn hg hp, ?_⟩
  have key : ∀ m i j, Path1 l i j → o.idxOf j - o.idxOf i = m → Path1 (few n l) i j := by
    intro m
    induction m using Nat.strongRecOn with
    | _ m ih =>
      intro i j h e
      have h0 := ho.path hg h
      by_cases hk : ∃ k, Path1 l i k ∧ Path1 l k j
      · obtain ⟨k, h1, h2⟩ := hk
        have h3 := ho.path hg h1
        have h4 := ho.path hg h2
        exact (ih _ (by omega) i k h1 rfl).trans (ih _ (by omega) k j h2 rfl).path
      · exact ⟨j, (few_mem hn hg i j).2 ⟨h, fun k h1 h2 => hk ⟨k, h1, h2⟩⟩, .refl⟩
  exact fun h => key _ i j h rfl
omit hn hg in
theorem few_nodup : (few n l).Nodup := by
  unfold few
  rw [List.Nodup, List.pairwise_flatMap]
  refine ⟨fun i _ => ?_, ?_⟩
  · rw [List.pairwise_map]
    exact (List.Pairwise.filter _ List.nodup_range : (pts (fewB n l i)).Nodup).imp fun h e => h (by simpa using e)
  · refine List.nodup_range.imp fun h p hp q hq e => ?_
    obtain ⟨x, _, rfl⟩ := List.mem_map.1 hp
    obtain ⟨y, _, e'⟩ := List.mem_map.1 hq
    rw [← e'] at e
    cases e
    exact h rfl
theorem few_len : (few n l).length ≤ l.length := pig few_nodup fun p hp => few_sub hn hg hp
/-- Without any one of them they are not the same. -/
theorem few_need {k : Nat} (hk : k < (few n l).length) : ∃ i j, Path1 l i j ∧ ¬ Path1 ((few n l).eraseIdx k) i j := by
  refine ⟨((few n l)[k]).1, ((few n l)[k]).2, ?_⟩
  have hm : ((few n l)[k].1, (few n l)[k].2) ∈ few n l := List.getElem_mem hk
  obtain ⟨h1, h2⟩ := (few_mem hn hg _ _).1 hm
  refine ⟨h1, fun ⟨c, h3, h4⟩ => ?_⟩
  have hsub : ∀ p ∈ (few n l).eraseIdx k, p ∈ few n l := fun p hp => List.mem_of_mem_eraseIdx hp
  have hl : ∀ p ∈ (few n l).eraseIdx k, p ∈ l := fun p hp => few_sub hn hg (hsub p hp)
  rcases h4.cases1 with rfl | h4
  · rw [List.mem_eraseIdx_iff_getElem] at h3
    obtain ⟨i, hi, hne, e⟩ := h3
    have := (List.getElem_inj (h₀ := hi) (h₁ := hk) (few_nodup (n := n) (l := l))).1 e
    exact hne this
  · exact h2 c ⟨c, hl _ h3, .refl⟩ (h4.mono hl)
end
theorem few_flip {n : Nat} {l l' : List (Nat × Nat)} (hn : n ≤ 64) (hg : Good n l) (hg' : Good n l') (h : ∀ a b, (a, b) ∈ l' ↔ (b, a) ∈ l) (i j : Nat) : (i, j) ∈ few n l' ↔ (j, i) ∈ few n l := by
  have hp : ∀ a b, Path1 l' a b ↔ Path1 l b a := fun a b => by
    rw [← path1_flip (l := l)]
    have hm : ∀ p, p ∈ l' ↔ p ∈ l.map flip := fun ⟨x, y⟩ => by rw [h, flip_mem]
    exact ⟨fun h => h.mono fun p => (hm p).1, fun h => h.mono fun p => (hm p).2⟩
  rw [few_mem hn hg', few_mem hn hg, hp]
  refine and_congr_right fun _ => ?_
  constructor
  · intro h k h1 h2; exact h k ((hp _ _).2 h2) ((hp _ _).2 h1)
  · intro h k h1 h2; exact h k ((hp _ _).1 h2) ((hp _ _).1 h1)
theorem few_flip_len {n : Nat} {l l' : List (Nat × Nat)} (hn : n ≤ 64) (hg : Good n l) (hg' : Good n l') (h : ∀ a b, (a, b) ∈ l' ↔ (b, a) ∈ l) : (few n l').length = (few n l).length := by
  have key : ∀ {l l' : List (Nat × Nat)} (hg : Good n l) (hg' : Good n l') (h : ∀ a b, (a, b) ∈ l' ↔ (b, a) ∈ l), (few n l').length ≤ (few n l).length := by
    intro l l' hg hg' h
    have : ((few n l').map flip).Nodup := by
      rw [List.Nodup, List.pairwise_map]
      exact (few_nodup (n := n) (l := l')).imp fun {a b} h e => h (by
        obtain ⟨a1, a2⟩ := a; obtain ⟨b1, b2⟩ := b
        simp only [flip, Prod.mk.injEq] at e
        rw [e.1, e.2])
    have := pig (M := few n l) this (fun ⟨x, y⟩ hp => by
      rw [flip_mem] at hp
      exact (few_flip hn hg hg' h y x).1 hp)
    simpa using this
  exact Nat.le_antisymm (key hg hg' h) (key hg' hg fun a b => (h b a).symm)
end Go.Proofs

namespace Go.Proofs
open Go.Aw
def isRoot (P : List Nat) (i : Nat) : Bool := decide (P.getD i default = i)
def rank (P : List Nat) (k : Nat) : Nat := (List.range k).countP (isRoot P)
theorem rank_succ (P : List Nat) (k : Nat) : rank P (k + 1) = rank P k + if isRoot P k then 1 else 0 := by
  unfold rank
  rw [List.range_succ, List.countP_append]
  simp [List.countP_cons]
theorem rank_mono (P : List Nat) {i k : Nat} (h : i ≤ k) : rank P i ≤ rank P k := by
  induction h with
  | refl => exact Nat.le_refl _
  | step _ ih => rw [rank_succ]; omega
theorem rank_lt (P : List Nat) {i k : Nat} (h : i < k) (hr : isRoot P i = true) : rank P i < rank P k := by
  have h1 := rank_mono P (show i + 1 ≤ k from h)
  rw [rank_succ, hr] at h1
  simp at h1; omega
theorem rank_le (P : List Nat) (k : Nat) : rank P k ≤ k := by
  have := List.countP_le_length (p := isRoot P) (l := List.range k)
  simpa [rank] using this
/-- Parts numbered by their least points. -/
def numI (P : List Nat) (s : List Nat × Nat) (i : Nat) : List Nat × Nat := if isRoot P i then (s.1.set i s.2, s.2 + 1) else s
def numS (n : Nat) (P : List Nat) (k : Nat) : List Nat × Nat := (List.range k).foldl (numI P) (List.replicate n 0, 0)
theorem numS_succ (n : Nat) (P : List Nat) (k : Nat) : numS n P (k + 1) = numI P (numS n P k) k := range_foldl _ _ _
theorem numS_spec (n : Nat) (P : List Nat) (k : Nat) (hk : k ≤ n) : (numS n P k).1.length = n ∧ (numS n P k).2 = rank P k ∧ ∀ j, j < k → isRoot P j = true → (numS n P k).1.getD j default = rank P j := by
  induction k with
  | zero => exact ⟨by simp [numS], by simp [numS, rank], fun j hj => by omega⟩
  | succ k ih =>
    obtain ⟨h1, h2, h3⟩ := ih (by omega)
    rw [numS_succ]
    unfold numI
    rw [rank_succ]
    split
    · rename_i hr
      refine ⟨by simp [h1], by simp [h2], fun j hj hrj => ?_⟩
      show ((numS n P k).1.set k (numS n P k).2).getD j default = rank P j
      rw [set_getD, h1, h2]
      by_cases e : k = j
      · subst e; rw [if_pos ⟨rfl, by omega⟩]
      · rw [if_neg (fun h => e h.1)]; exact h3 j (by omega) hrj
    · rename_i hr
      refine ⟨h1, by omega, fun j hj hrj => ?_⟩
      have : j ≠ k := fun e => hr (by rw [← e]; exact hrj)
      exact h3 j (by omega) hrj
/-- Of each point which part it is of. -/
def fOutP (n : Nat) (P : List Nat) (k : Nat) : List Nat := (List.range k).map fun i => (numS n P n).1.getD (P.getD i default) default
def fOut (n : Nat) (l : List (Nat × Nat)) : List Nat := fOutP n (strongP n l) n
def fMany (n : Nat) (l : List (Nat × Nat)) : Nat := (numS n (strongP n l) n).2
def crossL (out : List Nat) (l : List (Nat × Nat)) : List (Nat × Nat) := (l.map fun p => (out.getD p.1 default, out.getD p.2 default)).filter fun p => decide (p.1 ≠ p.2)
def fNext (n : Nat) (l : List (Nat × Nat)) : List Nat := outS (fMany n l) (crossL (fOut n l) l)
def linesK (next : List Nat) (k : Nat) : List (Nat × Nat) := (List.range k).flatMap fun a => (pts (next.getD a default)).map fun b => (a, b)
def fLines (n : Nat) (l : List (Nat × Nat)) : List (Nat × Nat) := linesK (fNext n l) (fMany n l)
theorem linesK_succ (next : List Nat) (k : Nat) : linesK next (k + 1) = linesK next k ++ (pts (next.getD k default)).map fun b => (k, b) := by
  unfold linesK
  rw [List.range_succ, List.flatMap_append]
  simp
theorem linesK_mem {next : List Nat} {k a b : Nat} : (a, b) ∈ linesK next k ↔ a < k ∧ b ∈ pts (next.getD a default) := by
  unfold linesK
  rw [List.mem_flatMap]
  constructor
  · rintro ⟨x, hx, h⟩
    obtain ⟨y, hy, e⟩ := List.mem_map.1 h
    cases e
    exact ⟨by simpa using hx, hy⟩
  · rintro ⟨h1, h2⟩
    exact ⟨a, by simpa using h1, List.mem_map.2 ⟨b, h2, rfl⟩⟩
theorem part_set {α : Type} (f : Nat → α) (z : α) {n q : Nat} (h : q < n) : ((List.range n).map fun i => if i < q + 1 then f i else z) = ((List.range n).map fun i => if i < q then f i else z).set q (f q) := by
  refine List.ext_getElem (by simp) fun i h1 h2 => ?_
  rw [List.getElem_set]
  simp only [List.getElem_map, List.getElem_range]
  by_cases e : q = i
  · subst e; simp
  · rw [if_neg e]
    by_cases h3 : i < q
    · rw [if_pos h3, if_pos (by omega)]
    · rw [if_neg h3, if_neg (by omega)]
theorem part_zero {α : Type} (f : Nat → α) (z : α) (n : Nat) : ((List.range n).map fun i => if i < 0 then f i else z) = List.replicate n z := by
  refine List.ext_getElem (by simp) fun i h1 h2 => ?_
  simp
theorem part_all {α : Type} (f : Nat → α) (z : α) (n : Nat) : ((List.range n).map fun i => if i < n then f i else z) = (List.range n).map f := by
  refine List.map_congr_left fun i hi => ?_
  rw [if_pos (by simpa using hi)]
theorem range_getD {α : Type} [Inhabited α] (f : Nat → α) {n i : Nat} (h : i < n) : ((List.range n).map f).getD i default = f i := by
  rw [List.getD_eq_getElem?_getD, List.getElem?_map, List.getElem?_range h]; rfl
section
variable {n : Nat} {l : List (Nat × Nat)} (hn : n ≤ 64) (hg : Good n l)
include hn hg
omit hn hg in
theorem P_get {i : Nat} (hi : i < n) : (strongP n l).getD i default = part n l i := range_getD _ hi
theorem P_lt {i : Nat} (hi : i < n) : (strongP n l).getD i default < n := by
  rw [P_get hi]
  have := (part_mut hn hg hi).2; omega
theorem P_root {i : Nat} (hi : i < n) : isRoot (strongP n l) (part n l i) = true := by
  have h := part_mut hn hg hi
  have hp : part n l i < n := by omega
  unfold isRoot
  rw [P_get hp, decide_eq_true_eq]
  exact (part_iff hn hg hp hi).2 h.1.symm
omit hn hg in
theorem fMany_eq : fMany n l = rank (strongP n l) n := (numS_spec n _ n (Nat.le_refl n)).2.1
omit hn hg in
theorem fMany_le : fMany n l ≤ n := by rw [fMany_eq]; exact rank_le _ _
theorem fOut_get {i : Nat} (hi : i < n) : (fOut n l).getD i default = rank (strongP n l) (part n l i) := by
  unfold fOut fOutP
  rw [range_getD _ hi, P_get hi]
  have := (part_mut hn hg hi).2
  exact (numS_spec n _ n (Nat.le_refl n)).2.2 _ (by omega) (P_root hn hg hi)
theorem fOut_lt {i : Nat} (hi : i < n) : (fOut n l).getD i default < fMany n l := by
  rw [fOut_get hn hg hi, fMany_eq]
  have := (part_mut hn hg hi).2
  exact rank_lt _ (by omega) (P_root hn hg hi)
theorem cross_lt : ∀ p ∈ crossL (fOut n l) l, p.1 < fMany n l ∧ p.2 < fMany n l := by
  intro p hp
  obtain ⟨q, hq, rfl⟩ := List.mem_map.1 (List.mem_filter.1 hp).1
  exact ⟨fOut_lt hn hg (hg q hq).1, fOut_lt hn hg (hg q hq).2⟩
end
end Go.Proofs

namespace Go.Proofs
open Go.Aw
def deepJ (i : Nat) (s : List Nat) (j : Nat) : List Nat := s.set j (max (s.getD j default) (s.getD i default + 1))
def deepI (next : List Nat) (s : List Nat) (i : Nat) : List Nat := (pts (next.getD i default)).foldl (deepJ i) s
def deepS (n : Nat) (l : List (Nat × Nat)) (o : List Nat) : List Nat := o.foldl (deepI (outS n l)) (List.replicate n 0)
/-- How deep each point is. -/
def IsDeep (l : List (Nat × Nat)) (d : Nat → Nat) : Prop := (∀ a b, (a, b) ∈ l → d a + 1 ≤ d b) ∧ ∀ b, d b = 0 ∨ ∃ a, (a, b) ∈ l ∧ d b = d a + 1
/-- Ways of so many lines. -/
inductive PathN (l : List (Nat × Nat)) (a : Nat) : Nat → Nat → Prop
  | refl : PathN l a 0 a
  | step {k b c : Nat} (h : PathN l a k b) (h1 : (b, c) ∈ l) : PathN l a (k + 1) c
theorem PathN.le {l : List (Nat × Nat)} {d : Nat → Nat} (hd : IsDeep l d) {a k b : Nat} (h : PathN l a k b) : d a + k ≤ d b := by
  induction h with
  | refl => exact Nat.le_refl _
  | step _ h1 ih => have := hd.1 _ _ h1; omega
theorem IsDeep.way {l : List (Nat × Nat)} {d : Nat → Nat} (hd : IsDeep l d) : ∀ (k b : Nat), d b = k → ∃ a, PathN l a k b := by
  intro k
  induction k with
  | zero => intro b _; exact ⟨b, .refl⟩
  | succ k ih =>
    intro b hb
    rcases hd.2 b with h | ⟨a, h1, h2⟩
    · omega
    · obtain ⟨c, hc⟩ := ih a (by omega)
      exact ⟨c, .step hc h1⟩
theorem IsDeep.unique {l : List (Nat × Nat)} {d d' : Nat → Nat} (hd : IsDeep l d) (hd' : IsDeep l d') (b : Nat) : d b = d' b := by
  obtain ⟨a, ha⟩ := hd.way _ b rfl
  obtain ⟨c, hc⟩ := hd'.way _ b rfl
  have h1 := ha.le hd'
  have h2 := hc.le hd
  omega
theorem PathN.cons {l : List (Nat × Nat)} {a b c k : Nat} (h1 : (a, b) ∈ l) (h : PathN l b k c) : PathN l a (k + 1) c := by
  induction h with
  | refl => exact .step .refl h1
  | step _ h2 ih => exact .step ih h2
theorem PathN.flip {l : List (Nat × Nat)} {a k b : Nat} (h : PathN l a k b) : PathN (l.map Go.Proofs.flip) b k a := by
  induction h with
  | refl => exact .refl
  | step _ h1 ih => exact .cons (flip_mem.2 h1) ih
theorem PathN.mono {l l' : List (Nat × Nat)} (hl : ∀ p ∈ l, p ∈ l') {a k b : Nat} (h : PathN l a k b) : PathN l' a k b := by
  induction h with
  | refl => exact .refl
  | step _ h1 ih => exact .step ih (hl _ h1)
theorem PathN.start {n : Nat} {l : List (Nat × Nat)} (hg : Good n l) {a k b : Nat} (h : PathN l a k b) (hb : b < n) : a < n := by
  induction h with
  | refl => exact hb
  | step _ h1 ih => exact ih (hg _ h1).1
theorem PathN.ends {n : Nat} {l : List (Nat × Nat)} (hg : Good n l) {a k b : Nat} (h : PathN l a (k + 1) b) : a < n ∧ b < n := by
  cases h with
  | step h h1 => exact ⟨h.start hg (hg _ h1).1, (hg _ h1).2⟩
/-- One round. -/
theorem deepJs_get (i : Nat) (L : List Nat) (s : List Nat) (hi : i ∉ L) (hL : L.Nodup) (hlt : ∀ x ∈ L, x < s.length) :
    (L.foldl (deepJ i) s).length = s.length ∧ ∀ j, (L.foldl (deepJ i) s).getD j default = if j ∈ L then max (s.getD j default) (s.getD i default + 1) else s.getD j default := by
  induction L generalizing s with
  | nil => simp
  | cons x L ih =>
    obtain ⟨h1, h2⟩ := List.nodup_cons.1 hL
    have hxi : x ≠ i := fun e => hi (by simp [e])
    obtain ⟨h3, h4⟩ := ih (deepJ i s x) (fun h => hi (by simp [h])) h2 (fun y hy => by simpa [deepJ] using hlt y (by simp [hy]))
    have hg : ∀ j, (deepJ i s x).getD j default = if x = j ∧ j < s.length then max (s.getD x default) (s.getD i default + 1) else s.getD j default := fun j => by rw [deepJ, set_getD]
    rw [List.foldl_cons]
    refine ⟨by rw [h3]; simp [deepJ], fun j => ?_⟩
    rw [h4, hg j, hg i, if_neg (fun h : x = i ∧ _ => hxi h.1)]
    by_cases hj : j ∈ L
    · have hjx : ¬ x = j := fun e => h1 (e ▸ hj)
      rw [if_pos hj, if_neg (fun h => hjx h.1), if_pos (by simp [hj])]
    · rw [if_neg hj]
      by_cases hjx : x = j
      · subst hjx
        rw [if_pos ⟨rfl, hlt x (by simp)⟩, if_pos (by simp)]
      · rw [if_neg (fun h => hjx h.1), if_neg (by simp [hj]; exact fun e => hjx e.symm)]
theorem pts_nodup (s : Nat) : (pts s).Nodup := List.Pairwise.filter _ List.nodup_range
theorem mem_next {n : Nat} {l : List (Nat × Nat)} (hn : n ≤ 64) (hg : Good n l) {i j : Nat} : j ∈ pts ((outS n l).getD i default) ↔ (i, j) ∈ l := by
  rw [pts_mem, outS_bit]
  exact ⟨fun h => h.2.2, fun h => ⟨by have := (hg _ h).2; omega, (hg _ h).1, h⟩⟩
structure DI (n : Nat) (l : List (Nat × Nat)) (pre : List Nat) (s : List Nat) : Prop where
  len : s.length = n
  ge : ∀ i ∈ pre, ∀ j, (i, j) ∈ l → s.getD i default + 1 ≤ s.getD j default
  eq : ∀ j, s.getD j default = 0 ∨ ∃ i ∈ pre, (i, j) ∈ l ∧ s.getD j default = s.getD i default + 1
theorem DI.next {n : Nat} {l : List (Nat × Nat)} (hn : n ≤ 64) (hg : Good n l) {o pre t s : List Nat} {i : Nat} (ho : TI n l 0 o) (e : o = pre ++ i :: t) (h : DI n l pre s) : DI n l (pre ++ [i]) (deepI (outS n l) s i) := by
  have hnd := ho.nodup
  rw [e, List.nodup_append] at hnd
  have hin : ∀ x, (i, x) ∈ l → x ∉ pre ∧ x ≠ i := by
    intro x hx
    constructor
    · intro hp
      obtain ⟨s1, t1, e1⟩ := List.append_of_mem hp
      have := ho.fwd i x hx s1 (t1 ++ i :: t) (by rw [e, e1]; simp)
      exact hnd.2.2 i (by rw [e1]; simp [this]) i (by simp) rfl
    · intro e'
      have := ho.idx hg hx
      rw [e'] at this; omega
  obtain ⟨h1, h2⟩ := deepJs_get i (pts ((outS n l).getD i default)) s (fun h' => (hin i ((mem_next hn hg).1 h')).2 rfl) (pts_nodup _) (fun x hx => by rw [h.len]; exact (hg _ ((mem_next hn hg).1 hx)).2)
  have h3 : ∀ j, (deepI (outS n l) s i).getD j default = if (i, j) ∈ l then max (s.getD j default) (s.getD i default + 1) else s.getD j default := fun j => by
    rw [deepI, h2]
    by_cases hj : (i, j) ∈ l
    · rw [if_pos hj, if_pos ((mem_next hn hg).2 hj)]
    · rw [if_neg hj, if_neg (fun h => hj ((mem_next hn hg).1 h))]
  have hpre : ∀ x, (x ∈ pre ∨ x = i) → (deepI (outS n l) s i).getD x default = s.getD x default := by
    intro x hx
    rw [h3, if_neg]
    intro h'
    rcases hx with hx | hx
    · exact (hin x h').1 hx
    · exact (hin x h').2 hx
  refine ⟨by rw [deepI, h1, h.len], fun x hx j hj => ?_, fun j => ?_⟩
  · rw [hpre x (by simpa using hx), h3]
    rcases List.mem_append.1 hx with hx | hx
    · have := h.ge x hx j hj
      split <;> omega
    · obtain rfl := List.mem_singleton.1 hx
      rw [if_pos hj]; omega
  · rw [h3]
    split
    · rename_i hj
      rcases Nat.le_total (s.getD j default) (s.getD i default + 1) with hle | hle
      · exact .inr ⟨i, by simp, hj, by rw [hpre i (.inr rfl)]; omega⟩
      · rw [Nat.max_eq_left hle]
        rcases h.eq j with h4 | ⟨x, hx, h4, h5⟩
        · omega
        · exact .inr ⟨x, by simp [hx], h4, by rw [hpre x (.inl hx)]; exact h5⟩
    · rcases h.eq j with h4 | ⟨x, hx, h4, h5⟩
      · exact .inl h4
      · exact .inr ⟨x, by simp [hx], h4, by rw [hpre x (.inl hx)]; exact h5⟩
theorem deepS_len {n : Nat} {l : List (Nat × Nat)} {o : List Nat} (hn : n ≤ 64) (hg : Good n l) (ho : TI n l 0 o) (k : Nat) (hk : k ≤ o.length) : DI n l (o.take k) ((o.take k).foldl (deepI (outS n l)) (List.replicate n 0)) := by
  induction k with
  | zero =>
    refine ⟨by simp, fun i hi => by simp at hi, fun j => .inl ?_⟩
    simp only [List.take_zero, List.foldl_nil]
    rw [List.getD_eq_getElem?_getD, List.getElem?_replicate]
    split <;> rfl
  | succ k ih =>
    have h := ih (by omega)
    rw [take_succ_getD (by omega), List.foldl_append]
    refine h.next hn hg ho (t := o.drop (k + 1)) ?_
    rw [List.getD_eq_getElem?_getD, List.getElem?_eq_getElem (by omega), Option.getD_some, List.getElem_cons_drop, List.take_append_drop]
theorem deep_spec {n : Nat} {l : List (Nat × Nat)} {o : List Nat} (hn : n ≤ 64) (hg : Good n l) (ho : TI n l 0 o) : (deepS n l o).length = n ∧ IsDeep l fun j => (deepS n l o).getD j default := by
  have h := deepS_len hn hg ho o.length (Nat.le_refl _)
  rw [List.take_length] at h
  refine ⟨h.len, fun a b hab => h.ge a (ho.mem.2 (hg _ hab).1) b hab, fun b => ?_⟩
  rcases h.eq b with h1 | ⟨i, _, h1, h2⟩
  · exact .inl h1
  · exact .inr ⟨i, h1, h2⟩
/-- No way is longer than there are points. -/
theorem deep_lt {n : Nat} {l : List (Nat × Nat)} {o : List Nat} {d : Nat → Nat} (hg : Good n l) (ho : TI n l 0 o) (hd : IsDeep l d) {b : Nat} (hb : b < n) : d b < n := by
  obtain ⟨a, ha⟩ := hd.way _ b rfl
  have : ∀ k c, PathN l a k c → 0 < k → o.idxOf a + k ≤ o.idxOf c := by
    intro k c h
    induction h with
    | refl => intro h; omega
    | step h h1 ih =>
      intro _
      have := ho.idx hg h1
      cases h with
      | refl => omega
      | step => have := ih (by omega); omega
  rcases Nat.eq_zero_or_pos (d b) with h0 | h0
  · omega
  · have h1 := this _ _ ha h0
    have h2 := List.idxOf_lt_length_of_mem (ho.mem.2 hb)
    rw [ho.len] at h2
    omega
end Go.Proofs

namespace Go.Proofs
open Go.Aw
/-- The place of the least number that is not used. -/
def riseB (l : List Int) (used : List Bool) (b : Int) (i : Nat) : Int := if used.getD i default = false ∧ (b < 0 ∨ l.getD i default < l.getD b.toNat default) then (i : Int) else b
def riseM (l : List Int) (used : List Bool) : Int := (List.range l.length).foldl (riseB l used) (-1)
def riseS (l : List Int) (s : List Bool × List Int) : List Bool × List Int := (s.1.set (riseM l s.1).toNat true, s.2 ++ [l.getD (riseM l s.1).toNat default])
def riseK (l : List Int) : Nat → List Bool × List Int
  | 0 => (List.replicate l.length false, [])
  | k + 1 => riseS l (riseK l k)
def rising (l : List Int) : List Int := (riseK l l.length).2
theorem riseB_spec (l : List Int) (used : List Bool) : ∀ k, (k ≤ l.length) →
    ((List.range k).foldl (riseB l used) (-1) = -1 ∧ ∀ i, i < k → used.getD i default = true) ∨
    ∃ x : Nat, (List.range k).foldl (riseB l used) (-1) = (x : Int) ∧ x < k ∧ used.getD x default = false ∧ ∀ i, i < k → used.getD i default = false → l.getD x default ≤ l.getD i default := by
  intro k
  induction k with
  | zero => intro _; exact .inl ⟨rfl, fun i h => by omega⟩
  | succ k ih =>
    intro hk
    rw [List.range_succ, List.foldl_append, List.foldl_cons, List.foldl_nil]
    rcases ih (by omega) with ⟨h1, h2⟩ | ⟨x, h1, h2, h3, h4⟩
    · rw [h1]
      unfold riseB
      by_cases hu : used.getD k default = false
      · rw [if_pos ⟨hu, .inl (by decide)⟩]
        refine .inr ⟨k, rfl, by omega, hu, fun i hi hui => ?_⟩
        rcases Nat.lt_or_ge i k with h | h
        · rw [h2 i h] at hui; cases hui
        · have : i = k := by omega
          rw [this]; exact Int.le_refl _
      · rw [if_neg (fun h => hu h.1)]
        refine .inl ⟨rfl, fun i hi => ?_⟩
        rcases Nat.lt_or_ge i k with h | h
        · exact h2 i h
        · have : i = k := by omega
          rw [this]; simpa using hu
    · rw [h1]
      unfold riseB
      rw [Int.toNat_natCast]
      by_cases hc : used.getD k default = false ∧ ((x : Int) < 0 ∨ l.getD k default < l.getD x default)
      · rw [if_pos hc]
        have hlt := hc.2.resolve_left (by omega)
        refine .inr ⟨k, rfl, by omega, hc.1, fun i hi hui => ?_⟩
        rcases Nat.lt_or_ge i k with h | h
        · have := h4 i h hui; omega
        · have : i = k := by omega
          rw [this]; exact Int.le_refl _
      · rw [if_neg hc]
        refine .inr ⟨x, rfl, by omega, h3, fun i hi hui => ?_⟩
        rcases Nat.lt_or_ge i k with h | h
        · exact h4 i h hui
        · have : i = k := by omega
          subst this
          rcases Int.lt_or_le (l.getD i default) (l.getD x default) with h' | h'
          · exact absurd ⟨hui, .inr h'⟩ hc
          · exact h'
structure RsI (l : List Int) (k : Nat) (s : List Bool × List Int) (ps : List Nat) : Prop where
  len : s.1.length = l.length
  ps_len : ps.length = k
  nodup : ps.Nodup
  lt : ∀ p ∈ ps, p < l.length
  used : ∀ i, i < l.length → (s.1.getD i default = true ↔ i ∈ ps)
  out : s.2 = ps.map fun p => l.getD p default
  sorted : s.2.Pairwise (· ≤ ·)
  least : ∀ x ∈ s.2, ∀ i, i < l.length → i ∉ ps → x ≤ l.getD i default
theorem RsI.step {l : List Int} {k : Nat} {s : List Bool × List Int} {ps : List Nat} (h : RsI l k s ps) (hk : k < l.length) : ∃ x : Nat, riseM l s.1 = (x : Int) ∧ x < l.length ∧ RsI l (k + 1) (riseS l s) (ps ++ [x]) := by
  rcases riseB_spec l s.1 l.length (Nat.le_refl _) with ⟨_, h2⟩ | ⟨x, h1, h2, h3, h4⟩
  · exfalso
    have := pig (L := List.range l.length) (M := ps) List.nodup_range (fun i hi => (h.used i (by simpa using hi)).1 (h2 i (by simpa using hi)))
    rw [List.length_range, h.ps_len] at this
    omega
  · have h1' : riseM l s.1 = (x : Int) := h1
    have hx : x ∉ ps := fun hm => by
      rw [(h.used x h2).2 hm] at h3; cases h3
    refine ⟨x, h1', h2, ?_⟩
    unfold riseS
    rw [h1', Int.toNat_natCast]
    refine ⟨by simp [h.len], by simp [h.ps_len], ?_, ?_, fun i hi => ?_, by simp [h.out], ?_, ?_⟩
    · rw [List.nodup_append]
      exact ⟨h.nodup, by simp, fun a ha b hb e => by
        rw [List.mem_singleton.1 hb] at e
        exact hx (e ▸ ha)⟩
    · intro p hp
      rcases List.mem_append.1 hp with hp | hp
      · exact h.lt p hp
      · rw [List.mem_singleton.1 hp]; exact h2
    · rw [set_getD, h.len, List.mem_append, List.mem_singleton]
      by_cases hxi : x = i
      · subst hxi; simp [h2]
      · rw [if_neg (fun hh => hxi hh.1), h.used i hi]
        exact ⟨.inl, fun hh => hh.resolve_right fun e => hxi e.symm⟩
    · rw [List.pairwise_append]
      refine ⟨h.sorted, by simp, fun a ha b hb => ?_⟩
      rw [List.mem_singleton.1 hb]
      exact h.least a ha x h2 hx
    · intro y hy i hi hni
      have hni' : i ∉ ps := fun hm => hni (by simp [hm])
      rcases List.mem_append.1 hy with hy | hy
      · exact h.least y hy i hi hni'
      · rw [List.mem_singleton.1 hy]
        refine h4 i hi ?_
        cases hu : s.1.getD i default with
        | false => rfl
        | true => exact absurd ((h.used i hi).1 hu) hni'
theorem riseK_spec (l : List Int) : ∀ k, k ≤ l.length → ∃ ps, RsI l k (riseK l k) ps := by
  intro k
  induction k with
  | zero =>
    intro _
    refine ⟨[], ⟨by simp [riseK], rfl, List.nodup_nil, by simp, fun i hi => ?_, rfl, List.Pairwise.nil, by simp [riseK]⟩⟩
    simp only [riseK, List.getD_eq_getElem?_getD, List.getElem?_replicate, hi, if_true]
    simp
  | succ k ih =>
    intro hk
    obtain ⟨ps, h⟩ := ih (by omega)
    obtain ⟨x, _, _, h'⟩ := h.step hk
    exact ⟨_, h'⟩
theorem riseM_lt (l : List Int) {k : Nat} (hk : k < l.length) : ∃ x : Nat, riseM l (riseK l k).1 = (x : Int) ∧ x < l.length ∧ (riseK l k).1.length = l.length := by
  obtain ⟨ps, h⟩ := riseK_spec l k (by omega)
  obtain ⟨x, h1, h2, _⟩ := h.step hk
  exact ⟨x, h1, h2, h.len⟩
/-- The same numbers, rising. -/
theorem rising_spec (l : List Int) : (rising l).length = l.length ∧ (rising l).Pairwise (· ≤ ·) ∧ (∀ x, x ∈ rising l ↔ x ∈ l) ∧ (l.Nodup → (rising l).Nodup) := by
  obtain ⟨ps, h⟩ := riseK_spec l l.length (Nat.le_refl _)
  have hall : ∀ i, i < l.length → i ∈ ps := fun i hi => Classical.byContradiction fun hno => by
    have := pig (L := i :: ps) (M := List.range l.length) (List.nodup_cons.2 ⟨hno, h.nodup⟩) (fun x hx => by
      rcases List.mem_cons.1 hx with rfl | hx
      · simpa using hi
      · simpa using h.lt x hx)
    rw [List.length_cons, List.length_range, h.ps_len] at this
    omega
  refine ⟨by unfold rising; rw [h.out, List.length_map, h.ps_len], h.sorted, fun x => ?_, fun hnd => ?_⟩
  · unfold rising
    rw [h.out, List.mem_map]
    constructor
    · rintro ⟨p, hp, rfl⟩
      exact getD_mem (h.lt p hp)
    · intro hx
      obtain ⟨i, hi, rfl⟩ := List.mem_iff_getElem.1 hx
      exact ⟨i, hall i hi, by rw [List.getD_eq_getElem?_getD, List.getElem?_eq_getElem hi]; rfl⟩
  · unfold rising
    rw [h.out]
    unfold List.Nodup
    rw [List.pairwise_map]
    have hp := h.nodup
    unfold List.Nodup at hp
    refine List.Pairwise.imp_of_mem ?_ hp
    intro a b ha hb hab e
    have h1 := h.lt a ha
    have h2 := h.lt b hb
    rw [List.getD_eq_getElem?_getD, List.getElem?_eq_getElem h1, List.getD_eq_getElem?_getD, List.getElem?_eq_getElem h2] at e
    exact hab ((List.getElem_inj hnd).1 e)
theorem strict_eq : ∀ {a b : List Int}, a.Pairwise (· < ·) → b.Pairwise (· < ·) → (∀ x, x ∈ a ↔ x ∈ b) → a = b := by
  intro a
  induction a with
  | nil => intro b _ _ h; cases b with
    | nil => rfl
    | cons y b => exact absurd ((h y).2 (by simp)) (by simp)
  | cons x a ih =>
    intro b ha hb h
    cases b with
    | nil => exact absurd ((h x).1 (by simp)) (by simp)
    | cons y b =>
      obtain ⟨ha1, ha2⟩ := List.pairwise_cons.1 ha
      obtain ⟨hb1, hb2⟩ := List.pairwise_cons.1 hb
      have e : x = y := by
        rcases List.mem_cons.1 ((h x).1 (by simp)) with h1 | h1
        · exact h1
        rcases List.mem_cons.1 ((h y).2 (by simp)) with h2 | h2
        · exact h2.symm
        have := ha1 y h2
        have := hb1 x h1
        omega
      subst e
      congr 1
      refine ih ha2 hb2 fun z => ?_
      constructor
      · intro hz
        rcases List.mem_cons.1 ((h z).1 (by simp [hz])) with h1 | h1
        · have := ha1 z hz; omega
        · exact h1
      · intro hz
        rcases List.mem_cons.1 ((h z).2 (by simp [hz])) with h1 | h1
        · have := hb1 z hz; omega
        · exact h1
theorem strict_of {l : List Int} (h : l.Pairwise (· ≤ ·)) (hn : l.Nodup) : l.Pairwise (· < ·) := by
  have := List.Pairwise.and h hn
  exact this.imp fun ⟨h1, h2⟩ => by omega
theorem ptsI_strict (s : Nat) : (ptsI s).Pairwise (· < ·) := by
  unfold ptsI
  rw [List.pairwise_map]
  refine (List.Pairwise.filter _ List.pairwise_lt_range).imp fun h => ?_
  exact Int.ofNat_lt.2 h
/-- Each once, they are a set's points. -/
theorem rising_pts {l : List Int} {s : Nat} (hl : l.Nodup) (h : ∀ x, x ∈ l ↔ x ∈ ptsI s) : rising l = ptsI s := by
  obtain ⟨_, h2, h3, h4⟩ := rising_spec l
  exact strict_eq (strict_of h2 (h4 hl)) (ptsI_strict s) fun x => (h3 x).trans (h x)
/-- The last one is the greatest. -/
theorem rising_last {l : List Int} {m : Int} (hm : m ∈ l) (h : ∀ x ∈ l, x ≤ m) : (rising l).getD (l.length - 1) default = m := by
  obtain ⟨h1, h2, h3, _⟩ := rising_spec l
  have hpos := List.length_pos_of_mem hm
  have hmem := (h3 m).2 hm
  obtain ⟨i, hi, e⟩ := List.mem_iff_getElem.1 hmem
  have hj : l.length - 1 < (rising l).length := by omega
  rw [List.getD_eq_getElem?_getD, List.getElem?_eq_getElem hj, Option.getD_some]
  have hle := h _ ((h3 _).1 (List.getElem_mem hj))
  refine Int.le_antisymm hle ?_
  rcases Nat.lt_or_ge i (l.length - 1) with h' | h'
  · rw [← e]
    exact (List.pairwise_iff_getElem.1 h2) i (l.length - 1) hi hj h'
  · have : i = l.length - 1 := by omega
    subst this
    rw [e]; exact Int.le_refl _
end Go.Proofs

namespace Go.Proofs
open Go.Aw
/-- May a point be next? -/
def freeR (l : List (Nat × Nat)) (acc : List Nat) (i : Nat) : Bool := !decide (i ∈ acc) && l.all fun p => !decide (p.2 = i) || decide (p.1 ∈ acc)
theorem freeR_iff {n : Nat} {l : List (Nat × Nat)} {left : Nat} {acc : List Nat} (hn : n ≤ 64) (hg : Good n l) (h : TI n l left acc) {i : Nat} (hi : i < n) : freeR l acc i = true ↔ (freeS (outS n l) left).testBit i = true := by
  have hbit : ∀ j, j < n → (left.testBit j = true ↔ j ∉ acc) := fun j hj => by
    constructor
    · intro h1 h2
      have := (h.out j h2).2
      rw [h1] at this; cases this
    · intro h1
      exact (h.all j hj).resolve_right h1
  rw [free_bit hn h.lt i, hbit i hi]
  unfold freeR
  rw [Bool.and_eq_true, List.all_eq_true]
  simp only [Bool.not_eq_true', decide_eq_false_iff_not, Bool.or_eq_true, decide_eq_true_eq]
  refine and_congr_right fun _ => ?_
  constructor
  · intro h1 a ha hm
    have := (h1 _ hm).resolve_left (fun e => e rfl)
    exact (hbit a (hg _ hm).1).1 ha this
  · intro h1 p hp
    by_cases e : p.2 = i
    · right
      refine Classical.byContradiction fun hna => ?_
      exact h1 p.1 ((hbit _ (hg _ hp).1).2 hna) (by rw [← e]; exact hp)
    · exact .inl e
/-- The least of which F holds, seen from the end on. -/
def bst (F : Nat → Bool) (n : Nat) : Nat → Int
  | 0 => -1
  | c + 1 => if F (n - c - 1) = true then ((n - c - 1 : Nat) : Int) else bst F n c
theorem bst_spec (F : Nat → Bool) (n : Nat) : ∀ c, c ≤ n → (bst F n c = -1 ∧ ∀ i, n - c ≤ i → i < n → F i = false) ∨ ∃ i : Nat, bst F n c = (i : Int) ∧ n - c ≤ i ∧ i < n ∧ F i = true ∧ ∀ j, n - c ≤ j → j < i → F j = false := by
  intro c
  induction c with
  | zero => intro _; exact .inl ⟨rfl, fun i h1 h2 => by omega⟩
  | succ c ih =>
    intro hc
    unfold bst
    by_cases hF : F (n - c - 1) = true
    · rw [if_pos hF]
      exact .inr ⟨n - c - 1, rfl, by omega, by omega, hF, fun j h1 h2 => by omega⟩
    · rw [if_neg hF]
      have hF : F (n - c - 1) = false := by simpa using hF
      have hj : ∀ j, n - (c + 1) ≤ j → j = n - c - 1 ∨ n - c ≤ j := fun j hj => by omega
      rcases ih (by omega) with ⟨h1, h2⟩ | ⟨i, h1, h2, h3, h4, h5⟩
      · refine .inl ⟨h1, fun i hi hn => ?_⟩
        rcases hj i hi with rfl | h
        · exact hF
        · exact h2 i h hn
      · refine .inr ⟨i, h1, by omega, h3, h4, fun j hj1 hj2 => ?_⟩
        rcases hj j hj1 with rfl | h
        · exact hF
        · exact h5 j h hj2
theorem bst_low {n : Nat} {l : List (Nat × Nat)} {left : Nat} {acc : List Nat} (hn : n ≤ 64) (hg : Good n l) (h : TI n l left acc) : bst (freeR l acc) n n = if pts (freeS (outS n l) left) = [] then -1 else ((low (freeS (outS n l) left) : Nat) : Int) := by
  have hlt : ∀ i, (freeS (outS n l) left).testBit i = true → i < n := fun i hi => h.lt i ((free_bit hn h.lt i).1 hi).1
  rcases bst_spec (freeR l acc) n n (Nat.le_refl _) with ⟨h1, h2⟩ | ⟨i, h1, h2, h3, h4, h5⟩
  · rw [h1, if_pos]
    refine List.eq_nil_iff_forall_not_mem.2 fun x hx => ?_
    have hx := ((pts_mem _ _).1 hx).2
    have := h2 x (by omega) (hlt x hx)
    rw [(freeR_iff hn hg h (hlt x hx)).2 hx] at this; cases this
  · have hb := (freeR_iff hn hg h h3).1 h4
    obtain ⟨g1, g2, g3⟩ := low_spec hb (by omega)
    rw [h1, if_neg g1]
    have hll := hlt _ g2
    have : ¬ low (freeS (outS n l) left) < i := fun hlow => by
      have := h5 _ (by omega) hlow
      rw [(freeR_iff hn hg h hll).2 g2] at this; cases this
    omega
theorem go_step {n : Nat} {l : List (Nat × Nat)} {left : Nat} {acc : List Nat} (h : TI n l left acc) (hl : acc.length < n) : topoGo (outS n l) (n - acc.length) left acc =
    if pts (freeS (outS n l) left) = [] then none else topoGo (outS n l) (n - (acc.length + 1)) (dif left (2 ^ low (freeS (outS n l) left))) (acc ++ [low (freeS (outS n l) left)]) := by
  have h0 : left ≠ 0 := fun e => by
    subst e
    have hsub : List.range n ⊆ acc := fun x hx => (h.all x (by simpa using hx)).resolve_left (by simp)
    have := pig List.nodup_range hsub
    simp at this; omega
  obtain ⟨m, hm⟩ : ∃ m, n - acc.length = m + 1 := ⟨n - acc.length - 1, by omega⟩
  rw [hm, show n - (acc.length + 1) = m by omega]
  rw [topoGo, if_neg h0]
end Go.Proofs
