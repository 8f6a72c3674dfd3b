/- Part Aw 1 of what the proof of TopHalves stands on: an abstract walk over the model, sound for every run. -/
import Derived.RangeFuncNested
import Derived.RangeFuncLeaves
import Derived.OrdersIn
import Derived.StillTail
import Derived.Below
import Derived.TacticsIn
import Derived.MapKept
import Derived.ChangeKeysEq
import Derived.Shelf.Abstract
import Derived.Laws.AppendOwn
import Derived.Laws.MakeOwn
set_option linter.unusedVariables false
set_option linter.unusedSimpArgs false
namespace Go.Aw
open Go.RowKit

/-- Data without references into owned memory. -/
inductive D where
  | c (v : Value)
  | l (xs : List D)
  | q (xs : List D)
  | s (xs : List D)
  | t (xs : List D)
  | f (fn : Fn) (xs : List D)
  | tight (xs : List D)

def D.cells : D → List D
  | .s xs => xs
  | x => [x]

/-- It lies in one cell. -/
def D.one : D → Bool
  | .c v => v.oneCell'
  | .s _ => false
  | .t _ => false
  | _ => true

/-- What a slot holds. -/
inductive V where
  | d (x : D)
  | j
  | nl
  | o (r off len : Nat)
  | p (b sub : Nat)
  | e (r idx sub : Nat)
  | fp (fn : Fn) (ps : List Nat)

structure Row where
  sz : Nat
  xs : List D

structure St where
  tm : List V
  bx : List V
  rw : List (Option Row)
  gh : List V := []
  fx : List (Value × V) := []

abbrev RLoc := Nat → Option (Nat × Nat)

/-- Where boxes and rows lie. -/
structure Map where
  b : Nat → Nat
  r : RLoc

inductive RelD (w : World) (N : Nat → Prop) : D → Value → Prop
  | c (v : Value) : RelD w N (.c v) v
  | nl (a : Option Addr) (cap : Nat) : RelD w N (.l []) (.slice a 0 cap)
  | l (xs : List D) (ad : Addr) (cap sz : Nat) (u : Nat → Nat → Value) (hc : xs.length ≤ cap) (hN : N ad.block)
      (hs : ∀ (i : Nat) (x : D), xs[i]? = some x → x.cells.length = sz)
      (hu : ∀ (i k : Nat) (x y : D), xs[i]? = some x → x.cells[k]? = some y → w.cell? (ad.add (i * sz + k)) = some (u i k))
      (hr : ∀ (i k : Nat) (x y : D), xs[i]? = some x → x.cells[k]? = some y → RelD w N y (u i k)) : RelD w N (.l xs) (.slice (some ad) xs.length cap)
  | q (xs : List D) (ad : Addr) (u : Nat → Value) (hN : N ad.block)
      (hu : ∀ (k : Nat) (y : D), xs[k]? = some y → w.cell? (ad.add k) = some (u k))
      (hr : ∀ (k : Nat) (y : D), xs[k]? = some y → RelD w N y (u k)) : RelD w N (.q xs) (.pointer (some ad))
  | s (xs : List D) (us : Array Value) (hl : us.size = xs.length) (hr : ∀ (k : Nat) (y : D) (u : Value), xs[k]? = some y → us[k]? = some u → RelD w N y u) : RelD w N (.s xs) (.agg us)
  | t (xs : List D) (us : Array Value) (hl : us.size = xs.length) (hr : ∀ (k : Nat) (y : D) (u : Value), xs[k]? = some y → us[k]? = some u → RelD w N y u) : RelD w N (.t xs) (.tuple us)
  | f (fn : Fn) (xs : List D) (us : Array Value) (hl : us.size = xs.length) (hr : ∀ (k : Nat) (y : D) (u : Value), xs[k]? = some y → us[k]? = some u → RelD w N y u) : RelD w N (.f fn xs) (.func fn #[] us)
  | tight (xs : List D) (A : Option Addr) (h : RelD w N (.l xs) (.slice A xs.length xs.length)) : RelD w N (.tight xs) (.slice A xs.length xs.length)

theorem add_block (a : Addr) (n : Nat) : (a.add n).block = a.block := by unfold Addr.add; split <;> rfl

/-- No cells lie there. -/
def noCells (w : World) (b : Nat) : Prop := ∀ C et fr, w.heap[b]? ≠ some (.cells C et fr)

theorem cell_kept {w w' : World} {a : Addr} {v : Value} (h : w'.heap[a.block]? = w.heap[a.block]? ∨ noCells w a.block) (hc : w.cell? a = some v) : w'.cell? a = some v := by
  rcases h with h | h
  · exact (World.cell?_of_block h).trans hc
  · unfold World.cell? at hc
    split at hc
    · rename_i C et fr hb
      exact absurd hb (h _ _ _)
    · cases hc

theorem RelD.mono {w w' : World} {N N' : Nat → Prop} (h : ∀ b, N b → N' b ∧ (w'.heap[b]? = w.heap[b]? ∨ noCells w b)) {d : D} {v : Value} (hd : RelD w N d v) : RelD w' N' d v := by
  induction hd with
  | c v => exact .c v
  | nl a cap => exact .nl a cap
  | l xs ad cap sz u hc hN hs hu hr ih =>
    exact .l xs ad cap sz u hc (h _ hN).1 hs (fun i k x y hx hy => cell_kept (by rw [add_block]; exact (h _ hN).2) (hu i k x y hx hy)) ih
  | q xs ad u hN hu hr ih =>
    exact .q xs ad u (h _ hN).1 (fun k y hy => cell_kept (by rw [add_block]; exact (h _ hN).2) (hu k y hy)) ih
  | s xs us hl hr ih => exact .s xs us hl ih
  | t xs us hl hr ih => exact .t xs us hl ih
  | f fn xs us hl hr ih => exact .f fn xs us hl ih
  | tight xs A h ih => exact .tight xs A ih

/-- Where the run began: its first world; the blocks that may be read for ever; the blocks that were lent to it. -/
structure Env where
  w0 : World
  N : Nat → Prop
  Ow : Nat → Prop
  gh : List Value := []
  ro : Option Nat := none
  pin : Nat → Obj → Prop := fun _ _ => False
  hro : ∀ l, ro = some l → ∃ o, pin l (.loop o) := by intro l h; cases h

/-- Blocks that the state owns. -/
def Own (μ : Map) (σ : St) (b : Nat) : Prop := (∃ i, i < σ.bx.length ∧ μ.b i = b) ∨ ∃ (r : Nat) (row : Row) (sh : Nat), σ.rw[r]? = some (some row) ∧ μ.r r = some (b, sh)

/-- Blocks that are read only. -/
def Fz (E : Env) (w : World) (μ : Map) (σ : St) (b : Nat) : Prop := (E.N b ∨ E.w0.heap.size ≤ b ∨ E.Ow b) ∧ b < w.heap.size ∧ ¬ Own μ σ b

def Room (w : World) (b n : Nat) : Prop := ∃ C et fr, w.heap[b]? = some (.cells C et fr) ∧ n ≤ C.size

def RelO (w : World) (μ : Map) (σ : St) (r off len : Nat) (v : Value) : Prop :=
  (r < σ.rw.length ∧ ∃ A n c, v = .slice A n c) ∧ ∀ row, σ.rw[r]? = some (some row) → off + len ≤ row.xs.length ∧
    ((μ.r r = none ∧ v = .slice none 0 0 ∧ len = 0) ∨
     ∃ b sh A cap, μ.r r = some (b, sh) ∧ v = .slice A len cap ∧ len ≤ cap ∧ (0 < cap ∨ off = 0 → A = some ⟨b, sh + off * row.sz, none⟩) ∧ Room w b (sh + (off + cap) * row.sz))

def RelP (μ : Map) (σ : St) (b sub : Nat) (v : Value) : Prop := b < σ.bx.length ∧ v = .pointer (some ⟨μ.b b, sub, none⟩)

def RelE (μ : Map) (σ : St) (r idx sub : Nat) (v : Value) : Prop :=
  (r < σ.rw.length ∧ ∃ ad, v = .pointer ad) ∧ ∀ row, σ.rw[r]? = some (some row) → idx < row.xs.length ∧ ∃ b sh, μ.r r = some (b, sh) ∧ v = .pointer (some ⟨b, sh + idx * row.sz + sub, none⟩)

def RelV (E : Env) (w : World) (μ : Map) (σ : St) : V → Value → Prop
  | .d x, v => RelD w (Fz E w μ σ) x v
  | .j, _ => True
  | .nl, v => v = .slice none 0 0
  | .o r off len, v => RelO w μ σ r off len v
  | .p b sub, v => RelP μ σ b sub v
  | .e r idx sub, v => RelE μ σ r idx sub v
  | .fp fn ps, v => ∃ us : Array Value, v = .func fn #[] us ∧ us.size = ps.length ∧ ∀ (k b : Nat), ps[k]? = some b → ∃ u, us[k]? = some u ∧ RelP μ σ b 0 u

def V.cells : V → List V
  | .d (.s xs) => xs.map .d
  | x => [x]

def V.one : V → Bool
  | .d x => x.one
  | .j => false
  | _ => true

/-- A box: a block of its own, cells and all. -/
def BoxOK (E : Env) (w : World) (μ : Map) (σ : St) (b : Nat) (x : V) : Prop :=
  ∃ C et, w.heap[b]? = some (.cells C et (0, 0)) ∧ C.size = x.cells.length ∧ ∀ (k : Nat) (y : V) (u : Value), x.cells[k]? = some y → C[k]? = some u → RelV E w μ σ y u

def RowOK (E : Env) (w : World) (μ : Map) (σ : St) (row : Row) : Option (Nat × Nat) → Prop
  | none => row.xs = []
  | some (b, sh) => 0 < row.sz ∧ (∀ x ∈ row.xs, x.cells.length = row.sz) ∧ ∃ C et, w.heap[b]? = some (.cells C et (0, 0)) ∧ sh + row.xs.length * row.sz ≤ C.size ∧
      ∀ (i k : Nat) (x y : D) (u : Value), row.xs[i]? = some x → x.cells[k]? = some y → C[sh + i * row.sz + k]? = some u → RelD w (Fz E w μ σ) y u

structure MemOK (E : Env) (w : World) (μ : Map) (σ : St) : Prop where
  bb : ∀ i k, i < σ.bx.length → k < σ.bx.length → μ.b i = μ.b k → i = k
  br : ∀ i r row sh, i < σ.bx.length → σ.rw[r]? = some (some row) → μ.r r ≠ some (μ.b i, sh)
  rr : ∀ r r' row row' b sh sh', σ.rw[r]? = some (some row) → σ.rw[r']? = some (some row') → μ.r r = some (b, sh) → μ.r r' = some (b, sh') → r = r'
  box : ∀ i x, σ.bx[i]? = some x → BoxOK E w μ σ (μ.b i) x
  row : ∀ r row, σ.rw[r]? = some (some row) → RowOK E w μ σ row (μ.r r)

def TmOK (E : Env) (w : World) (μ : Map) (σ : St) (ts : Array Value) : Prop := ts.size = σ.tm.length ∧ ∀ (k : Nat) (x : V) (u : Value), σ.tm[k]? = some x → ts[k]? = some u → RelV E w μ σ x u

def GhOK (E : Env) (w : World) (μ : Map) (σ : St) : Prop := E.gh.length = σ.gh.length ∧ ∀ (k : Nat) (x : V) (u : Value), σ.gh[k]? = some x → E.gh[k]? = some u → RelV E w μ σ x u

def PinOK (E : Env) (w : World) : Prop := ∀ (l : Nat) (o : Obj), E.pin l o → o.isCells = false ∧ w.heap[l]? = some o
theorem PinOK.keep {E : Env} {w w' : World} (h : PinOK E w) (hs : ∀ (k : Nat) (o : Obj), w.heap[k]? = some o → o.isCells = false → w'.heap[k]? = some o) : PinOK E w' := fun l o ho => ⟨(h l o ho).1, hs l o (h l o ho).2 (h l o ho).1⟩

/-- One step of the world: what was there and is in no block of Ow lies as it lay. -/
structure Stp (Ow : Nat → Prop) (w w' : World) : Prop where
  os : w'.os = w.os
  tape : w'.tape = w.tape
  output : w'.output = w.output
  size : w.heap.size ≤ w'.heap.size
  block : ∀ k, k < w.heap.size → ¬ Ow k → w'.heap[k]? = w.heap[k]?

theorem Stp.refl (Ow : Nat → Prop) (w : World) : Stp Ow w w := ⟨rfl, rfl, rfl, Nat.le_refl _, fun _ _ _ => rfl⟩
theorem Stp.trans {Ow Ow' : Nat → Prop} {a b c : World} (h : Stp Ow a b) (k : Stp Ow' b c) (ho : ∀ x, Ow' x → Ow x ∨ a.heap.size ≤ x) : Stp Ow a c :=
  ⟨k.os.trans h.os, k.tape.trans h.tape, k.output.trans h.output, Nat.le_trans h.size k.size, fun i hi hn =>
    (k.block i (Nat.lt_of_lt_of_le hi h.size) (fun h' => (ho i h').elim hn (fun h2 => by omega))).trans (h.block i hi hn)⟩
theorem Stp.mono {Ow Ow' : Nat → Prop} {a b : World} (h : Stp Ow a b) (ho : ∀ x, x < a.heap.size → Ow x → Ow' x) : Stp Ow' a b :=
  ⟨h.os, h.tape, h.output, h.size, fun i hi hn => h.block i hi (fun h' => hn (ho i hi h'))⟩
theorem Stp.below {B : Nat} {w w' : World} (h : Below B w w') (hB : B = w.heap.size) : Stp (fun _ => False) w w' :=
  ⟨h.os, h.tape, h.output, h.size, fun i hi _ => h.block i (by omega)⟩
theorem Stp.to_below {w w' : World} (h : Stp (fun _ => False) w w') : Below w.heap.size w w' :=
  ⟨h.os, h.tape, h.output, h.size, fun i hi => h.block i hi (fun h => h)⟩
theorem Stp.drew {Ow : Nat → Prop} (w : World) : Stp Ow w w.drew := ⟨rfl, rfl, rfl, Nat.le_refl _, fun _ _ _ => rfl⟩
theorem Stp.alloc {Ow : Nat → Prop} (w : World) (o : Obj) : Stp Ow w (w.alloc o) := ⟨rfl, rfl, rfl, by simp, fun k hk _ => Below.heap_alloc w o k hk⟩

def Marks (w0 w : World) (a : Act) : Prop :=
  ∃ ds : List Nat, a.defers = ds.map (fun r => ({ target := .collected r, args := #[] } : Deferred)) ∧ ds.Nodup ∧ ∀ r ∈ ds, w0.heap.size ≤ r ∧ w.heap[r]? = some (.deferred (some []))

/-- The state σ stands for the activation a and the world w, in a run that began in w0, Ow0 being what was lent to it. -/
structure Rel (E : Env) (σ : St) (μ : Map) (a : Act) (w : World) : Prop where
  stp : Stp E.Ow E.w0 w
  own : ∀ b, Own μ σ b → E.w0.heap.size ≤ b ∨ E.Ow b
  mem : MemOK E w μ σ
  tm : TmOK E w μ σ a.tmps
  marks : Marks E.w0 w a
  gh : GhOK E w μ σ
  pin : PinOK E w
  fx : ∀ (v : Value) (x : V), (v, x) ∈ σ.fx → RelV E w μ σ x v

def RelS (E : Env) (σ : St) (a : Act) (w : World) : Prop := ∃ μ, Rel E σ μ a w

abbrev FW (ro : Option Nat) : Fence := { Fence.wide with round := ro }

def lift (E : Env) (Q : Exit → St → Prop) (e : Exit) (a : Act) (w : World) : Prop := ∃ σ, Q e σ ∧ RelS E σ a w

/-- The handle of the type 'error', as package errors' variable holds it. -/
def hnd (P : Program) : Value := .iface (((P.cutTypes.find? (·.1 == "internal/reflectlite.rtype")).map (·.2)).getD 0) (.agg #[typeHandle P (((List.range P.types.size).find? fun t => P.rowNamed t [101, 114, 114, 111, 114]).getD 0)])
/-- What every run takes for granted: that variable, if the program has it, holds the handle. -/
def Gl (P : Program) (w : World) : Prop := ∀ g, P.globalNamed "errors.errorType" = some g → w.cell? ⟨g, 0, none⟩ = some (hnd P)
theorem Gl.keep {P : Program} {w w' : World} (h : Gl P w) (hs : ∀ g, P.globalNamed "errors.errorType" = some g → w'.heap[g]? = w.heap[g]?) : Gl P w' := fun g hg => (World.cell?_of_block (hs g hg)).trans (h g hg)
theorem Gl.lt {P : Program} {w : World} (h : Gl P w) {g : Nat} (hg : P.globalNamed "errors.errorType" = some g) : g < w.heap.size := by
  have := h g hg
  unfold World.cell? at this
  split at this
  · rename_i C et fr hb
    exact (Array.getElem?_eq_some_iff.1 hb).1
  · cases this
/-- It holds where the run began, and the variable is not lent. -/
def EOK (P : Program) (E : Env) : Prop := Gl P E.w0 ∧ ∀ g, P.globalNamed "errors.errorType" = some g → ¬ E.Ow g
theorem EOK.gl {P : Program} {E : Env} {σ : St} {μ : Map} {a : Act} {w : World} (h : EOK P E) (hr : Rel E σ μ a w) : Gl P w := h.1.keep fun g hg => hr.stp.block g (h.1.lt hg) (h.2 g hg)
theorem EOK.own {P : Program} {E : Env} {σ : St} {μ : Map} {a : Act} {w : World} (h : EOK P E) (hr : Rel E σ μ a w) {g : Nat} (hg : P.globalNamed "errors.errorType" = some g) : ¬ Own μ σ g := fun ho =>
  (hr.own g ho).elim (fun h1 => absurd (h.1.lt hg) (by omega)) (h.2 g hg)

/-- The abstract triple. -/
def AW (P : Program) (c : Code) (Q : Exit → St → Prop) (σ : St) : Prop :=
  ∀ (E : Env) (a : Act) (w : World), EOK P E → RelS E σ a w → c.wpIn (FW E.ro) 0 P (lift E Q) a w

end Go.Aw

namespace Go.Aw
open Go.RowKit

def V.men (X : Nat → Prop) : V → Prop
  | .o r _ _ => X r
  | .e r _ _ => X r
  | _ => False

structure Tr (E : Env) (X : Nat → Prop) (w : World) (μ : Map) (σ : St) (w' : World) (μ' : Map) (σ' : St) : Prop where
  fz : ∀ b, Fz E w μ σ b → Fz E w' μ' σ' b ∧ (w'.heap[b]? = w.heap[b]? ∨ noCells w b)
  bl : σ.bx.length ≤ σ'.bx.length
  bm : ∀ i, i < σ.bx.length → μ'.b i = μ.b i
  rl : σ.rw.length ≤ σ'.rw.length
  rw : ∀ r row', r < σ.rw.length → ¬ X r → σ'.rw[r]? = some (some row') → ∃ row, σ.rw[r]? = some (some row) ∧ row.sz = row'.sz ∧ row.xs.length ≤ row'.xs.length ∧ μ'.r r = μ.r r
  room : ∀ b n, Room w b n → Room w' b n

theorem RelP.tr {E : Env} {X : Nat → Prop} {w w' : World} {μ μ' : Map} {σ σ' : St} (h : Tr E X w μ σ w' μ' σ') {b sub : Nat} {v : Value} (hr : RelP μ σ b sub v) : RelP μ' σ' b sub v :=
  ⟨Nat.lt_of_lt_of_le hr.1 h.bl, by rw [h.bm _ hr.1]; exact hr.2⟩

theorem RelV.tr {E : Env} {X : Nat → Prop} {w w' : World} {μ μ' : Map} {σ σ' : St} (h : Tr E X w μ σ w' μ' σ') {x : V} {v : Value} (hx : ¬ x.men X) (hr : RelV E w μ σ x v) : RelV E w' μ' σ' x v := by
  cases x with
  | d x => exact RelD.mono h.fz hr
  | j => trivial
  | nl => exact hr
  | o r off len =>
    obtain ⟨⟨hlt, hsv⟩, hr⟩ := hr
    refine ⟨⟨Nat.lt_of_lt_of_le hlt h.rl, hsv⟩, fun row' hrow' => ?_⟩
    obtain ⟨row, h1, h2, h3, h4⟩ := h.rw r row' hlt hx hrow'
    obtain ⟨h5, h6⟩ := hr row h1
    refine ⟨Nat.le_trans h5 h3, ?_⟩
    rcases h6 with ⟨h6, h7⟩ | ⟨b, sh, A, cap, h6, h7, h8, h9, h10⟩
    · exact .inl ⟨h4.trans h6, h7⟩
    · exact .inr ⟨b, sh, A, cap, h4.trans h6, h7, h8, h2 ▸ h9, h2 ▸ h.room _ _ h10⟩
  | p b sub => exact RelP.tr h hr
  | e r idx sub =>
    obtain ⟨⟨hlt, hsv⟩, hr⟩ := hr
    refine ⟨⟨Nat.lt_of_lt_of_le hlt h.rl, hsv⟩, fun row' hrow' => ?_⟩
    obtain ⟨row, h1, h2, h3, h4⟩ := h.rw r row' hlt hx hrow'
    obtain ⟨h5, b, sh, h6, h7⟩ := hr row h1
    exact ⟨Nat.lt_of_lt_of_le h5 h3, b, sh, h4.trans h6, h2 ▸ h7⟩
  | fp fn ps =>
    obtain ⟨us, h1, h2, h3⟩ := hr
    refine ⟨us, h1, h2, fun k b hk => ?_⟩
    obtain ⟨u, h4, h5⟩ := h3 k b hk
    exact ⟨u, h4, h5.tr h⟩

theorem no_men (x : V) : ¬ x.men (fun _ => False) := by cases x <;> simp [V.men]

/-- The same state in a later world in which all that was there lies as it lay. -/
theorem Tr.later {E : Env} {w w' : World} {μ : Map} {σ : St} (h : Stp (fun _ => False) w w') : Tr E (fun _ => False) w μ σ w' μ σ where
  fz b hb := ⟨⟨hb.1, Nat.lt_of_lt_of_le hb.2.1 h.size, hb.2.2⟩, .inl (h.block b hb.2.1 (fun h => h))⟩
  bl := Nat.le_refl _
  bm _ _ := rfl
  rl := Nat.le_refl _
  rw r row' _ _ h' := ⟨row', h', rfl, Nat.le_refl _, rfl⟩
  room b n := by
    rintro ⟨C, et, fr, h1, h2⟩
    exact ⟨C, et, fr, (h.block b (Array.getElem?_eq_some_iff.1 h1).1 (fun h => h)).trans h1, h2⟩

theorem BoxOK.tr {E : Env} {X : Nat → Prop} {w w' : World} {μ μ' : Map} {σ σ' : St} (h : Tr E X w μ σ w' μ' σ') {b : Nat} {x : V} (hx : ∀ y ∈ x.cells, ¬ y.men X) (hb : w'.heap[b]? = w.heap[b]?) (hr : BoxOK E w μ σ b x) : BoxOK E w' μ' σ' b x := by
  obtain ⟨C, et, h1, h2, h3⟩ := hr
  exact ⟨C, et, hb.trans h1, h2, fun k y u hy hu => (h3 k y u hy hu).tr h (hx y (List.mem_of_getElem? hy))⟩

theorem RowOK.tr {E : Env} {X : Nat → Prop} {w w' : World} {μ μ' : Map} {σ σ' : St} (h : Tr E X w μ σ w' μ' σ') {row : Row} {loc : Option (Nat × Nat)} (hb : ∀ b sh, loc = some (b, sh) → w'.heap[b]? = w.heap[b]?) (hr : RowOK E w μ σ row loc) : RowOK E w' μ' σ' row loc := by
  cases loc with
  | none => exact hr
  | some p =>
    obtain ⟨b, sh⟩ := p
    obtain ⟨h0, h1, C, et, h2, h3, h4⟩ := hr
    exact ⟨h0, h1, C, et, (hb b sh rfl).trans h2, h3, fun i k x y u hx hy hu => (h4 i k x y u hx hy hu).mono h.fz⟩

theorem BoxOK.lt {E : Env} {w : World} {μ : Map} {σ : St} {b : Nat} {x : V} (h : BoxOK E w μ σ b x) : b < w.heap.size := by
  obtain ⟨C, et, h1, _⟩ := h
  exact (Array.getElem?_eq_some_iff.1 h1).1
theorem RowOK.lt {E : Env} {w : World} {μ : Map} {σ : St} {row : Row} {b sh : Nat} (h : RowOK E w μ σ row (some (b, sh))) : b < w.heap.size := by
  obtain ⟨_, _, C, et, h1, _⟩ := h
  exact (Array.getElem?_eq_some_iff.1 h1).1
theorem MemOK.own_lt {E : Env} {w : World} {μ : Map} {σ : St} (h : MemOK E w μ σ) {b : Nat} (hb : Own μ σ b) : b < w.heap.size := by
  rcases hb with ⟨i, hi, rfl⟩ | ⟨r, row, sh, hr, hm⟩
  · exact (h.box i _ (List.getElem?_eq_getElem hi)).lt
  · have := h.row r row hr
    rw [hm] at this
    exact this.lt

/-- An owned block holds cells. -/
theorem MemOK.own_cells {E : Env} {w : World} {μ : Map} {σ : St} (h : MemOK E w μ σ) {b : Nat} (hb : Own μ σ b) : ∃ C et fr, w.heap[b]? = some (.cells C et fr) := by
  rcases hb with ⟨i, hi, rfl⟩ | ⟨r, row, sh, hr, hm⟩
  · obtain ⟨C, et, h1, _⟩ := h.box i _ (List.getElem?_eq_getElem hi)
    exact ⟨C, et, _, h1⟩
  · have := h.row r row hr
    rw [hm] at this
    obtain ⟨_, _, C, et, h1, _⟩ := this
    exact ⟨C, et, _, h1⟩

theorem Rel.later {E : Env} {σ : St} {μ : Map} {a : Act} {w w' : World} (h : Rel E σ μ a w) (hs : Stp (fun _ => False) w w') : Rel E σ μ a w' := by
  have t := Tr.later (E := E) (μ := μ) (σ := σ) hs
  have hb : ∀ b, b < w.heap.size → w'.heap[b]? = w.heap[b]? := fun b hb => hs.block b hb (fun h => h)
  refine ⟨h.stp.trans hs (fun _ h => h.elim), h.own, ?_, ⟨h.tm.1, fun k x u hx hu => (h.tm.2 k x u hx hu).tr t (no_men x)⟩, ?_, ⟨h.gh.1, fun k x u hx hu => (h.gh.2 k x u hx hu).tr t (no_men x)⟩, h.pin.keep (fun k o hk _ => (hb k (Array.getElem?_eq_some_iff.1 hk).1).trans hk), fun v x hx => (h.fx v x hx).tr t (no_men x)⟩
  · refine ⟨h.mem.bb, h.mem.br, h.mem.rr, fun i x hx => ?_, fun r row hr => ?_⟩
    · exact (h.mem.box i x hx).tr t (fun y _ => no_men y) (hb _ (h.mem.box i x hx).lt)
    · refine (h.mem.row r row hr).tr t (fun b sh e => hb _ ?_)
      have := h.mem.row r row hr
      rw [e] at this
      exact this.lt
  · obtain ⟨ds, h1, h2, h3⟩ := h.marks
    refine ⟨ds, h1, h2, fun r hr => ⟨(h3 r hr).1, (hb r ?_).trans (h3 r hr).2⟩⟩
    exact (Array.getElem?_eq_some_iff.1 (h3 r hr).2).1

/-- A slot is written. -/
def St.put (σ : St) (dst : Option Tmp) (x : V) : St :=
  match dst with
  | some d => { σ with tm := σ.tm.set d x }
  | none => σ

theorem TmOK.put {E : Env} {w : World} {μ : Map} {σ : St} {a : Act} (h : TmOK E w μ σ a.tmps) (dst : Option Tmp) {x : V} {v : Value} (hv : RelV E w μ σ x v) : TmOK E w μ (σ.put dst x) (a.put dst v).tmps := by
  cases dst with
  | none => exact h
  | some d =>
    refine ⟨by simp [St.put, Act.put, h.1], fun k y u hy hu => ?_⟩
    simp only [St.put, Act.put] at hy hu
    have hs := h.1
    rw [List.getElem?_set] at hy
    rw [Array.getElem?_setIfInBounds] at hu
    by_cases hk : d = k
    · subst hk
      have hlt : d < σ.tm.length := by
        rcases Nat.lt_or_ge d σ.tm.length with h' | h'
        · exact h'
        · rw [if_pos rfl, if_neg (by omega)] at hy; cases hy
      rw [if_pos rfl, if_pos hlt] at hy
      rw [if_pos rfl, if_pos (show d < a.tmps.size by rw [hs]; exact hlt)] at hu
      cases hy; cases hu
      exact hv
    · rw [if_neg hk] at hy
      rw [if_neg hk] at hu
      exact h.2 k y u hy hu

theorem Rel.put {E : Env} {σ : St} {μ : Map} {a : Act} {w : World} (h : Rel E σ μ a w) (dst : Option Tmp) {x : V} {v : Value} (hv : RelV E w μ σ x v) : Rel E (σ.put dst x) μ (a.put dst v) w := by
  have hd : (a.put dst v).defers = a.defers := by cases dst <;> rfl
  have ht := h.tm.put dst hv
  obtain ⟨ds, h1, h2, h3⟩ := h.marks
  cases dst with
  | none => exact ⟨h.stp, h.own, h.mem, ht, ⟨ds, hd.trans h1, h2, h3⟩, h.gh, h.pin, h.fx⟩
  | some d => exact ⟨h.stp, h.own, ⟨h.mem.bb, h.mem.br, h.mem.rr, h.mem.box, h.mem.row⟩, ht, ⟨ds, hd.trans h1, h2, h3⟩, h.gh, h.pin, h.fx⟩

/-- What an operand is. -/
def constV : Value → V
  | .slice none 0 0 => .nl
  | .agg us => .d (.s (us.toList.map .c))
  | v => .d (.c v)

def St.eval (σ : St) : Operand → V
  | .tmp t => σ.tm.getD t .j
  | .const v => constV v
  | .global _ => .j
  | .func f => .d (.f (.func f) [])

theorem rel_const {E : Env} {w : World} {μ : Map} {σ : St} (v : Value) : RelV E w μ σ (constV v) v := by
  unfold constV
  split
  · exact rfl
  · rename_i us
    refine RelD.s _ _ (by simp) (fun k y u hy hu => ?_)
    rw [List.getElem?_map] at hy
    rw [← Array.getElem?_toList] at hu
    rw [hu] at hy
    cases hy
    exact .c u
  · exact RelD.c v

theorem Rel.eval {E : Env} {σ : St} {μ : Map} {a : Act} {w : World} (h : Rel E σ μ a w) (x : Operand) : RelV E w μ σ (σ.eval x) (a.eval x) := by
  cases x with
  | tmp t =>
    simp only [St.eval, Act.eval, List.getD_eq_getElem?_getD]
    cases hx : σ.tm[t]? with
    | none => trivial
    | some y =>
      have hlt : t < a.tmps.size := by
        have := (List.getElem?_eq_some_iff.1 hx).1
        rw [h.tm.1]; exact this
      have hu : a.tmps[t]? = some (a.tmps.getD t undef) := by simp [hlt]
      exact h.tm.2 t y _ hx hu
  | const v => exact rel_const v
  | global g => trivial
  | func f => exact RelD.f _ [] #[] rfl (fun k y u hy _ => by simp at hy)

end Go.Aw

namespace Go.Aw
open Go.RowKit

section
variable (P : Program)

/-- Of a type: is it an aggregate, and how many cells has it? -/
def tyOf (t : TypeId) : Option (Bool × Nat) :=
  match P.info? t, P.underlying t with
  | some i, some (.struct _) => some (true, i.size)
  | some i, some (.array _ _) => some (true, i.size)
  | some i, some _ => some (false, i.size)
  | _, _ => none
/-- Of a slice type: its elements' type. -/
def slE (t : TypeId) : Option TypeId :=
  match P.underlying t with
  | some (.slice e) => some e
  | _ => none
/-- Of a struct's field: where it begins, and how many cells it has. -/
def fdOf (t : TypeId) (f : Nat) : Option (Nat × Nat) :=
  match P.underlying t with
  | some (.struct fs) =>
    match fs[f]? with
    | some fd => match P.info? fd.type with
      | some i => some (fd.offset, i.size)
      | none => none
    | none => none
  | _ => none
end

section
variable {P : Program}
theorem run_sizeOf_ty {t : TypeId} {g : Bool} {n : Nat} (h : tyOf P t = some (g, n)) (w : World) : (sizeOf t).run P w = .ok n w := by
  unfold tyOf at h
  split at h <;> first | (simp at h; done) | skip
  all_goals
    rename_i i _ hi _
    simp only [Option.some.injEq, Prod.mk.injEq] at h
    simp [sizeOf, typeInfo, hi, h.2]
theorem run_isAgg_ty {t : TypeId} {g : Bool} {n : Nat} (h : tyOf P t = some (g, n)) (w : World) : (isAgg t).run P w = .ok g w := by
  unfold tyOf at h
  split at h <;> first | (simp at h; done) | skip
  all_goals
    rename_i i _ _ hu
    simp only [Option.some.injEq, Prod.mk.injEq] at h
    obtain ⟨rfl, _⟩ := h
    unfold isAgg
    rw [Sem.run_bind, run_underlying hu w]
    simp
theorem run_und_sl {t e : TypeId} (h : slE P t = some e) (w : World) : (underlying t).run P w = .ok (.slice e) w := by
  unfold slE at h
  split at h
  · rename_i e' he
    cases h
    exact run_underlying he w
  · cases h

theorem add_add' (a : Addr) (m n : Nat) : (a.add m).add n = a.add (m + n) := by
  unfold Addr.add
  split <;> split <;> simp_all <;> omega

theorem RelD.q_inv {w : World} {N : Nat → Prop} {xs : List D} {v : Value} (h : RelD w N (.q xs) v) : ∃ (ad : Addr) (u : Nat → Value), v = .pointer (some ad) ∧ N ad.block ∧ (∀ (k : Nat) (y : D), xs[k]? = some y → w.cell? (ad.add k) = some (u k)) ∧ (∀ (k : Nat) (y : D), xs[k]? = some y → RelD w N y (u k)) := by
  cases h with
  | q _ ad u hN hu hr => exact ⟨ad, u, rfl, hN, hu, hr⟩

theorem loadQ_one {w : World} {N : Nat → Prop} {t : TypeId} {n : Nat} {y : D} {xs : List D} {v : Value} (ht : tyOf P t = some (false, n)) (h : RelD w N (.q (y :: xs)) v) :
    ∃ u, (Instr.loadAt t v).run P w = .ok u w ∧ RelD w N y u := by
  obtain ⟨ad, u, rfl, _, hu, hr⟩ := h.q_inv
  have h0 := hu 0 y rfl
  refine ⟨u 0, ?_, hr 0 y rfl⟩
  have : ad.add 0 = ad := by simp [Addr.add]
  rw [this] at h0
  simp [Instr.loadAt, Instr.sureAddr, loadVar, run_isAgg_ty ht, h0]

theorem loadQ_agg {w : World} {N : Nat → Prop} {t : TypeId} {n : Nat} {xs : List D} {v : Value} (ht : tyOf P t = some (true, n)) (hn : n ≤ xs.length) (h : RelD w N (.q xs) v) :
    ∃ u, (Instr.loadAt t v).run P w = .ok u w ∧ RelD w N (.s (xs.take n)) u := by
  obtain ⟨ad, u, rfl, _, hu, hr⟩ := h.q_inv
  have hl : (loadCells ad ((List.range n).map u).length).run P w = .ok ((List.range n).map u).toArray w :=
    run_loadCells_list (P := P) w ad ((List.range n).map u) (fun j v hv => by
      have hj : j < n := by have := (List.getElem?_eq_some_iff.1 hv).1; simpa using this
      rw [List.getElem?_map, List.getElem?_range hj] at hv
      simp at hv
      subst hv
      exact hu j _ (List.getElem?_eq_getElem (by omega)))
  simp only [List.length_map, List.length_range] at hl
  refine ⟨.agg ((List.range n).map u).toArray, ?_, .s _ _ (by simp; omega) (fun k y v hy hv => ?_)⟩
  · simp [Instr.loadAt, Instr.sureAddr, loadVar, run_isAgg_ty ht, run_sizeOf_ty ht, hl]
  · rw [List.getElem?_take] at hy
    split at hy
    · rename_i hk
      simp [hk] at hv
      subst hv
      exact hr k y hy
    · cases hy

theorem fieldQ {w : World} {N : Nat → Prop} {t : TypeId} {f off n : Nat} {xs : List D} {v : Value} (ht : fdOf P t f = some (off, n + 1)) (h : RelD w N (.q xs) v) :
    ∃ u, (Instr.fieldAt t v f).run P w = .ok u w ∧ RelD w N (.q (xs.drop off)) u := by
  obtain ⟨ad, u, rfl, hN, hu, hr⟩ := h.q_inv
  refine ⟨.pointer (some (ad.add off)), ?_, .q _ _ (fun k => u (off + k)) (by rw [add_block]; exact hN) (fun k y hy => ?_) (fun k y hy => ?_)⟩
  · unfold fdOf at ht
    split at ht
    · rename_i fs hfs
      split at ht
      · rename_i fd hfd
        split at ht
        · rename_i i hi
          simp only [Option.some.injEq, Prod.mk.injEq] at ht
          simp [Instr.fieldAt, run_underlying hfs, hfd, Instr.sureAddr, fieldPlace, sizeOf, typeInfo, hi, ht.1, ht.2]
        · cases ht
      · cases ht
    · cases ht
  · rw [List.getElem?_drop] at hy
    rw [add_add']
    exact hu _ _ hy
  · rw [List.getElem?_drop] at hy
    exact hr _ _ hy

theorem RelD.l_inv {w : World} {N : Nat → Prop} {xs : List D} {v : Value} (h : RelD w N (.l xs) v) : ∃ A cap, v = .slice A xs.length cap ∧ xs.length ≤ cap ∧
    (∀ (i : Nat) (x : D), xs[i]? = some x → ∃ ad, A = some ad ∧ RelD w N (.q x.cells) (.pointer (some (ad.add (i * x.cells.length))))) := by
  cases h with
  | nl a cap => exact ⟨a, cap, rfl, Nat.zero_le _, fun i x hx => by simp at hx⟩
  | l _ ad cap sz u hc hN hs hu hr =>
    refine ⟨some ad, cap, rfl, hc, fun i x hx => ⟨ad, rfl, ?_⟩⟩
    refine .q _ _ (u i) (by rw [add_block]; exact hN) (fun k y hy => ?_) (fun k y hy => hr i k x y hx hy)
    rw [add_add', hs i x hx]
    exact hu i k x y hx hy

theorem indexL {w : World} {N : Nat → Prop} {t e : TypeId} {g : Bool} {k : IntKind} {i : Int} {xs : List D} {x : D} {v : Value} (ht : slE P t = some e) (he : tyOf P e = some (g, x.cells.length)) (h0 : 0 ≤ i) (hx : xs[i.toNat]? = some x)
    (h : RelD w N (.l xs) v) : ∃ u, (Instr.indexAt t v (.int k i)).run P w = .ok u w ∧ RelD w N (.q x.cells) u := by
  obtain ⟨A, cap, rfl, hc, hi⟩ := h.l_inv
  obtain ⟨ad, rfl, hq⟩ := hi _ x hx
  refine ⟨_, ?_, hq⟩
  have hlt : i < (xs.length : Int) := by
    have := (List.getElem?_eq_some_iff.1 hx).1
    omega
  simp [Instr.indexAt, asIntOf, run_und_sl ht, run_sizeOf_ty he, h0, hlt]
end
end Go.Aw

namespace Go.Aw
open Go.RowKit

@[reducible] def I (k : IntKind) (n : Int) : D := .c (.int k n)
@[reducible] def Bo (b : Bool) : D := .c (.bool b)

section
variable (P : Program)

def tyK (t : TypeId) (k : Bool → Nat → Prop) : Prop := ∃ g n, tyOf P t = some (g, n) ∧ k g n
def slK (t : TypeId) (k : TypeId → Prop) : Prop := ∃ e, slE P t = some e ∧ k e
def fdK (t : TypeId) (f : Nat) (k : Nat → Nat → Prop) : Prop := ∃ o n, fdOf P t f = some (o, n) ∧ k o n
def atK (xs : List D) (i : Nat) (k : D → Prop) : Prop := ∃ x, xs[i]? = some x ∧ k x
def hdK (xs : List D) (k : D → Prop) : Prop :=
  match xs with
  | y :: _ => k y
  | [] => False
def nthK {α : Type} (xs : List α) (i : Nat) (k : α → Prop) : Prop :=
  match xs, i with
  | [], _ => False
  | y :: _, 0 => k y
  | _ :: ys, i + 1 => nthK ys i k
def rwK (σ : St) (r : Nat) (k : Row → Prop) : Prop :=
  match σ.rw.getD r none with
  | some row => k row
  | none => False
def bK (x : V) (k : Bool → Prop) : Prop :=
  match x with
  | .d (.c (.bool t)) => k t
  | _ => False
def iK (x : V) (k : IntKind → Int → Prop) : Prop :=
  match x with
  | .d (.c (.int q n)) => k q n
  | _ => False
def lenK (σ : St) (x : V) (k : Int → Prop) : Prop :=
  match x with
  | .nl => k 0
  | .d (.l xs) => k xs.length
  | .o r _ n => rwK σ r fun _ => k n
  | _ => False

/-- A load. -/
def ldK (t : TypeId) (σ : St) (x : V) (C : V → Prop) : Prop :=
  match x with
  | .d (.q xs) => tyK P t fun g n => match g with
    | true => n ≤ xs.length ∧ C (.d (.s (xs.take n)))
    | false => hdK xs fun y => C (.d y)
  | .p b sub => tyK P t fun g n => match g with
    | true => match σ.bx.getD b .j with
      | .d (.s ds) => if ds.length = n then sub = 0 ∧ C (.d (.s ds)) else sub + n ≤ ds.length ∧ C (.d (.s ((ds.drop sub).take n)))
      | _ => False
    | false => nthK (σ.bx.getD b .j).cells sub C
  | .e r i sub => rwK σ r fun row => tyK P t fun g n => match g with
    | true => sub = 0 ∧ n = row.sz ∧ atK row.xs i fun x => match x with
      | .s ds => C (.d (.s ds))
      | _ => False
    | false => atK row.xs i fun x => nthK x.cells sub fun y => C (.d y)
  | _ => False

def faK (t : TypeId) (σ : St) (f : Nat) (x : V) (C : V → Prop) : Prop :=
  fdK P t f fun off n => 0 < n ∧ match x with
    | .d (.q xs) => C (.d (.q (xs.drop off)))
    | .p b sub => C (.p b (sub + off))
    | .e r i sub => rwK σ r fun _ => C (.e r i (sub + off))
    | _ => False

def iaK (t : TypeId) (σ : St) (x : V) (i : Int) (C : V → Prop) : Prop :=
  match x with
  | .d (.l xs) => 0 ≤ i ∧ slK P t fun e => atK xs i.toNat fun x => tyK P e (fun _ n => x.cells.length = n) ∧ C (.d (.q x.cells))
  | .o r off len => (0 ≤ i ∧ i < len) ∧ slK P t fun e => rwK σ r fun row => tyK P e (fun _ n => row.sz = n) ∧ C (.e r (off + i.toNat) 0)
  | .d (.c v) => ∃ r off len, (v, V.o r off len) ∈ σ.fx ∧ (0 ≤ i ∧ i < len) ∧ slK P t fun e => rwK σ r fun row => tyK P e (fun _ n => row.sz = n) ∧ C (.e r (off + i.toNat) 0)
  | _ => False

def sliK (t : TypeId) (σ : St) (x : V) (lo hi : Option Int) (C : V → Prop) : Prop :=
  match x with
  | .nl => lo.getD 0 = 0 ∧ hi.getD 0 = 0 ∧ slK P t fun e => tyK P e fun _ _ => C .nl
  | .d (.l xs) => (0 ≤ lo.getD 0 ∧ lo.getD 0 ≤ hi.getD xs.length ∧ hi.getD xs.length ≤ xs.length) ∧ slK P t fun e => tyK P e (fun _ n => ∀ x ∈ xs, x.cells.length = n) ∧ C (.d (.l ((xs.take (hi.getD xs.length).toNat).drop (lo.getD 0).toNat)))
  | .o r off len => (0 ≤ lo.getD 0 ∧ lo.getD 0 ≤ hi.getD len ∧ hi.getD len ≤ len) ∧ slK P t fun e => tyK P e fun _ n => rwK σ r (fun row => row.sz = n) ∧ C (.o r (off + (lo.getD 0).toNat) (hi.getD len - lo.getD 0).toNat)
  | _ => False

/-- A slice that leaves no room behind it. -/
def sl3K (t : TypeId) (x : V) (lo hi : Option Int) (m : Int) (C : V → Prop) : Prop :=
  match x with
  | .d (.l xs) => (lo = none ∧ hi = some (xs.length : Int) ∧ m = xs.length) ∧ slK P t fun e => tyK P e fun _ _ => C (.d (.tight xs))
  | _ => False

def inK (k : IntKind) (n : Int) : Prop := k.min ≤ n ∧ n ≤ k.max

/-- a &^ b of sets. -/
def dif (a b : Nat) : Nat := a ^^^ (a &&& b)

/-- Integer operators. -/
def binI (op : BinOp) (k : IntKind) (a b : Int) (C : V → Prop) : Prop :=
  match op with
  | .add => inK k (a + b) ∧ C (.d (I k (a + b)))
  | .sub => inK k (a - b) ∧ C (.d (I k (a - b)))
  | .mul => inK k (a * b) ∧ C (.d (I k (a * b)))
  | .quo => (0 ≤ a ∧ 0 < b ∧ inK k (a / b)) ∧ C (.d (I k (a / b)))
  | .rem => (0 ≤ a ∧ 0 < b) ∧ C (.d (I k (a % b)))
  | .and => (k = .u64 ∧ 0 ≤ a ∧ a < 2 ^ 64 ∧ 0 ≤ b ∧ b < 2 ^ 64) ∧ C (.d (I k ((a.toNat &&& b.toNat : Nat))))
  | .or => (k = .u64 ∧ 0 ≤ a ∧ a < 2 ^ 64 ∧ 0 ≤ b ∧ b < 2 ^ 64) ∧ C (.d (I k ((a.toNat ||| b.toNat : Nat))))
  | .andNot => (k = .u64 ∧ 0 ≤ a ∧ a < 2 ^ 64 ∧ 0 ≤ b ∧ b < 2 ^ 64) ∧ C (.d (I k ((dif a.toNat b.toNat : Nat))))
  | .shl => (0 ≤ b ∧ b ≤ 64 ∧ k = .u64 ∧ inK k (a * 2 ^ b.toNat)) ∧ C (.d (I k (a * 2 ^ b.toNat)))
  | .shr => (0 ≤ a ∧ 0 ≤ b ∧ b ≤ 64 ∧ k = .u64) ∧ C (.d (I k ((a.toNat / 2 ^ b.toNat : Nat))))
  | .eql => C (.d (Bo (decide (a = b))))
  | .neq => C (.d (Bo (!decide (a = b))))
  | .lss => C (.d (Bo (decide (a < b))))
  | .leq => C (.d (Bo (decide (a ≤ b))))
  | .gtr => C (.d (Bo (decide (b < a))))
  | .geq => C (.d (Bo (decide (b ≤ a))))
  | _ => False

/-- An operator on values without references, by its run. -/
def BinC (op : BinOp) (t : TypeId) (x y : Operand) (a b : Value) (r : Value) : Prop :=
  ∀ w, (do eqGuard op t x y a b; binOp op t a b : Sem Value).run P w = .ok r w

def binC (op : BinOp) (t : TypeId) (x y : Operand) (a b : Value) (C : V → Prop) : Prop :=
  match a, b with
  | .int k a, .int k' b => (k = k' ∨ op = .shl ∨ op = .shr) ∧ binI op k a b C
  | a, b => ∃ r, BinC P op t x y a b r ∧ C (.d (.c r))

/-- Two structs of two ints. -/
def bin2 (op : BinOp) (t : TypeId) (x y : Operand) (a b : List D) (C : V → Prop) : Prop :=
  match a, b with
  | [.c a0, .c a1], [.c b0, .c b1] => ∃ r, BinC P op t x y (.agg #[a0, a1]) (.agg #[b0, b1]) r ∧ C (.d (.c r))
  | _, _ => False

def binE (op : BinOp) (t : TypeId) (x y : Operand) (vx vy : V) (C : V → Prop) : Prop :=
  match vx, vy with
  | .d (.c a), .d (.c b) => binC P op t x y a b C
  | .d (.s a), .d (.s b) => bin2 P op t x y a b C
  | _, _ => False

/-- A struct or an array of two parts. -/
def bdOf (t : TypeId) : Option (Nat × Nat) :=
  match P.info? t, P.underlying t with
  | some i, some (.struct fs) =>
    match fs.toList with
    | [f0, f1] =>
      match P.info? f0.type, P.info? f1.type with
      | some i0, some i1 => if f0.offset = 0 ∧ f1.offset = i0.size ∧ (i.zero.map fun z => z.cells.size) = some (i0.size + i1.size) then some (i0.size, i1.size) else none
      | _, _ => none
    | _ => none
  | some i, some (.array 2 e) =>
    match P.info? e with
    | some i0 => if (i.zero.map fun z => z.cells.size) = some (i0.size + i0.size) then some (i0.size, i0.size) else none
    | none => none
  | _, _ => none
def bdK (t : TypeId) (k : Nat → Nat → Prop) : Prop := ∃ m n, bdOf P t = some (m, n) ∧ k m n
def arOf (t : TypeId) : Option (Nat × TypeId) :=
  match P.underlying t with
  | some (.array n e) => some (n, e)
  | _ => none
def arK (t : TypeId) (k : Nat → TypeId → Prop) : Prop := ∃ n e, arOf P t = some (n, e) ∧ k n e
def ncI (t : TypeId) : Bool :=
  match P.underlying t with
  | some (.interface _) => false
  | some _ => true
  | none => false

def dK (x : V) (k : D → Prop) : Prop :=
  match x with
  | .d x => k x
  | .nl => k (.l [])
  | _ => False

def capsK (xs : List V) (k : List Nat → Prop) : Prop :=
  match xs with
  | [] => k []
  | .p b 0 :: rest => capsK rest fun bs => k (b :: bs)
  | _ => False

def optI (σ : St) : Option Operand → (Option Int → Prop) → Prop
  | none, k => k none
  | some x, k => iK (σ.eval x) fun _ n => k (some n)

/-- A builtin that only computes. -/
def buE (b : Builtin) (σ : St) (args : List Operand) (ts : List TypeId) (C : V → Prop) : Prop :=
  match b with
  | .len => match args, ts with
    | [x], [t] => slK P t fun _ => lenK σ (σ.eval x) fun n => C (.d (I .i64 n))
    | _, _ => False
  | .max => match args with
    | [x, y] => iK (σ.eval x) fun k a => iK (σ.eval y) fun k' b => k = k' ∧ C (.d (I k (if b > a then b else a)))
    | _ => False
  | .min => match args with
    | [x, y] => iK (σ.eval x) fun k a => iK (σ.eval y) fun k' b => k = k' ∧ C (.d (I k (if b < a then b else a)))
    | _ => False
  | _ => False
def bldE (t : TypeId) (σ : St) (parts : List (Nat × Operand)) (C : V → Prop) : Prop :=
  match parts with
  | [(i, x), (j, y)] => i = 0 ∧ j = 1 ∧ dK (σ.eval x) fun x => dK (σ.eval y) fun y => bdK P t (fun m n => x.cells.length = m ∧ y.cells.length = n ∧ x.cells.all D.one = true ∧ y.cells.all D.one = true) ∧ C (.d (.s (x.cells ++ y.cells)))
  | _ => False

/-- An operation that only computes: what it gives. -/
def evE (op : Op) (σ : St) (C : V → Prop) : Prop :=
  match op with
  | .move x => C (σ.eval x)
  | .assign x => C (σ.eval x)
  | .pick c a b => bK (σ.eval c) fun t => (t = true → C (σ.eval a)) ∧ (t = false → C (σ.eval b))
  | .load t a => ldK P t σ (σ.eval a) C
  | .binOp op t x y _ => binE P op t x y (σ.eval x) (σ.eval y) C
  | .unOp op _ x => match op with
    | .not => bK (σ.eval x) fun t => C (.d (Bo (!t)))
    | _ => False
  | .fieldAddr t x f => faK P t σ f (σ.eval x) C
  | .indexAddr t x i => iK (σ.eval i) fun _ n => iaK P t σ (σ.eval x) n C
  | .index t x i => iK (σ.eval i) fun _ n => dK (σ.eval x) fun x => match x with
    | .s xs => 0 ≤ n ∧ arK P t fun m e => n < m ∧ tyK P e fun g s => g = false ∧ s = 1 ∧ atK xs n.toNat fun y => C (.d y)
    | _ => False
  | .extract x n => dK (σ.eval x) fun x => match x with
    | .t xs => nthK xs n fun y => C (.d y)
    | _ => False
  | .makeInterface t x => dK (σ.eval x) fun x => match x with
    | .c v => ncI P t = true ∧ C (.d (.c (.iface t v)))
    | _ => False
  | .makeFunc fn first caps => first.toList = [] ∧ capsK (caps.toList.map σ.eval) fun bs => C (.fp fn bs)
  | .slice t x lo hi mx => match mx with
    | none => optI σ lo fun lo => optI σ hi fun hi => sliK P t σ (σ.eval x) lo hi C
    | some m => optI σ lo fun lo => optI σ hi fun hi => iK (σ.eval m) fun _ m => sl3K P t (σ.eval x) lo hi m C
  | .build t ps => bldE P t σ ps.toList C
  | .call c => match c.callee with
    | .builtin b => buE P b σ c.args.toList c.argTypes.toList C
    | _ => False
  | _ => False
end
end Go.Aw

namespace Go.Aw
open Go.RowKit
variable {P : Program}

theorem wrap_in {k : IntKind} {n : Int} (h : inK k n) : k.wrap n = n := by
  obtain ⟨h1, h2⟩ := h
  cases k <;> simp [IntKind.min, IntKind.max, IntKind.signed, IntKind.bits] at h1 h2 <;> simp [IntKind.wrap, IntKind.signed, IntKind.bits] <;> omega

theorem and_u64 {a b : Int} (h : 0 ≤ a ∧ a < 2 ^ 64 ∧ 0 ≤ b ∧ b < 2 ^ 64) (w : World) : (Op.intBits .and .u64 a b).run P w = .ok (.int .u64 ((a.toNat &&& b.toNat : Nat) : Int)) w := by
  obtain ⟨h1, h2, h3, h4⟩ := h
  obtain ⟨m, rfl⟩ := Int.eq_ofNat_of_zero_le h1
  obtain ⟨n, rfl⟩ := Int.eq_ofNat_of_zero_le h3
  have hm : m < 2 ^ 64 := by omega
  have hn : n < 2 ^ 64 := by omega
  have e : ∀ k : Nat, k < 2 ^ 64 → (BitVec.ofInt 64 (k : Int)).toNat = k := fun k hk => by
    simp; omega
  have hl : m &&& n < 2 ^ 64 := Nat.lt_of_le_of_lt Nat.and_le_left hm
  show Result.ok (Value.int .u64 (IntKind.wrap .u64 ((BitVec.ofInt 64 (m : Int) &&& BitVec.ofInt 64 (n : Int)).toNat : Nat))) w = _
  rw [BitVec.toNat_and, e m hm, e n hn, wrap_in, Int.toNat_natCast, Int.toNat_natCast]
  constructor <;> simp [IntKind.min, IntKind.max, IntKind.signed, IntKind.bits] <;> omega
theorem or_u64 {a b : Int} (h : 0 ≤ a ∧ a < 2 ^ 64 ∧ 0 ≤ b ∧ b < 2 ^ 64) (w : World) : (Op.intBits .or .u64 a b).run P w = .ok (.int .u64 ((a.toNat ||| b.toNat : Nat) : Int)) w := by
  obtain ⟨h1, h2, h3, h4⟩ := h
  obtain ⟨m, rfl⟩ := Int.eq_ofNat_of_zero_le h1
  obtain ⟨n, rfl⟩ := Int.eq_ofNat_of_zero_le h3
  have hm : m < 2 ^ 64 := by omega
  have hn : n < 2 ^ 64 := by omega
  have e : ∀ k : Nat, k < 2 ^ 64 → (BitVec.ofInt 64 (k : Int)).toNat = k := fun k hk => by
    simp; omega
  have hl : m ||| n < 2 ^ 64 := Nat.or_lt_two_pow hm hn
  show Result.ok (Value.int .u64 (IntKind.wrap .u64 ((BitVec.ofInt 64 (m : Int) ||| BitVec.ofInt 64 (n : Int)).toNat : Nat))) w = _
  rw [BitVec.toNat_or, e m hm, e n hn, wrap_in, Int.toNat_natCast, Int.toNat_natCast]
  constructor <;> simp [IntKind.min, IntKind.max, IntKind.signed, IntKind.bits] <;> omega
theorem dif_lt {m n : Nat} {k : Nat} (hm : m < 2 ^ k) : dif m n < 2 ^ k :=
  Nat.xor_lt_two_pow hm (Nat.lt_of_le_of_lt Nat.and_le_left hm)
theorem dif_bit (m n i : Nat) : (dif m n).testBit i = (m.testBit i && !n.testBit i) := by
  simp only [dif, Nat.testBit_xor, Nat.testBit_and]
  cases m.testBit i <;> cases n.testBit i <;> rfl
theorem andNot_u64 {a b : Int} (h : 0 ≤ a ∧ a < 2 ^ 64 ∧ 0 ≤ b ∧ b < 2 ^ 64) (w : World) : (Op.intBits .andNot .u64 a b).run P w = .ok (.int .u64 ((dif a.toNat b.toNat : Nat) : Int)) w := by
  obtain ⟨h1, h2, h3, h4⟩ := h
  obtain ⟨m, rfl⟩ := Int.eq_ofNat_of_zero_le h1
  obtain ⟨n, rfl⟩ := Int.eq_ofNat_of_zero_le h3
  have hm : m < 2 ^ 64 := by omega
  have hn : n < 2 ^ 64 := by omega
  have e : ∀ k : Nat, k < 2 ^ 64 → (BitVec.ofInt 64 (k : Int)).toNat = k := fun k hk => by
    simp; omega
  have hl : dif m n < 2 ^ 64 := dif_lt hm
  have he : (BitVec.ofInt 64 (m : Int) &&& ~~~(BitVec.ofInt 64 (n : Int))).toNat = dif m n := by
    apply Nat.eq_of_testBit_eq
    intro i
    rw [dif_bit, BitVec.toNat_and, Nat.testBit_and, e m hm]
    by_cases hi : i < 64
    · congr 1
      rw [← BitVec.getLsbD, BitVec.getLsbD_not, BitVec.getLsbD, e n hn]
      simp [hi]
    · have : m.testBit i = false := Nat.testBit_lt_two_pow (Nat.lt_of_lt_of_le hm (Nat.pow_le_pow_right (by omega) (by omega)))
      simp [this]
  show Result.ok (Value.int .u64 (IntKind.wrap .u64 ((BitVec.ofInt 64 (m : Int) &&& ~~~BitVec.ofInt 64 (n : Int)).toNat : Nat))) w = _
  rw [he, wrap_in, Int.toNat_natCast, Int.toNat_natCast]
  constructor <;> simp [IntKind.min, IntKind.max, IntKind.signed, IntKind.bits] <;> omega

theorem binI_sound {op : BinOp} {t : TypeId} {k k' : IntKind} {a b : Int} {C : V → Prop} (hk : k = k' ∨ op = .shl ∨ op = .shr) (h : binI op k a b C) (w : World) :
    ∃ x u, C x ∧ (binOp op t (.int k a) (.int k' b)).run P w = .ok u w ∧ x = .d (.c u) := by
  cases op <;> simp only [binI] at h <;> first | (exact h.elim) | skip
  case shl =>
    obtain ⟨⟨h1, h2, rfl, h3⟩, h4⟩ := h
    refine ⟨_, _, h4, ?_, rfl⟩
    have hb : ¬ b < 0 := by omega
    have hm : min b.toNat 64 = b.toNat := by omega
    simp [binOp, Op.shift, hb, IntKind.bits, hm, wrap_in h3]
  case shr =>
    obtain ⟨⟨h1, h2, h3, rfl⟩, h4⟩ := h
    refine ⟨_, _, h4, ?_, rfl⟩
    have hb : ¬ b < 0 := by omega
    have hm : min b.toNat 64 = b.toNat := by omega
    obtain ⟨m, rfl⟩ := Int.eq_ofNat_of_zero_le h1
    have hp : (0 : Int) ≤ 2 ^ b.toNat := Int.le_of_lt (Int.pow_pos (by decide))
    simp [binOp, Op.shift, hb, IntKind.bits, hm, Int.fdiv_eq_ediv_of_nonneg _ hp]
  all_goals
    have hkk : k = k' := by simpa using hk
    subst hkk
  case add => exact ⟨_, _, h.2, by simp [binOp, Op.intArith, wrap_in h.1], rfl⟩
  case sub => exact ⟨_, _, h.2, by simp [binOp, Op.intArith, wrap_in h.1], rfl⟩
  case mul => exact ⟨_, _, h.2, by simp [binOp, Op.intArith, wrap_in h.1], rfl⟩
  case quo =>
    obtain ⟨⟨h1, h2, h3⟩, h4⟩ := h
    have hb : ¬ b = 0 := by omega
    refine ⟨_, _, h4, ?_, rfl⟩
    simp [binOp, Op.intDiv, hb, Int.tdiv_eq_ediv_of_nonneg h1, wrap_in h3]
  case rem =>
    obtain ⟨⟨h1, h2⟩, h4⟩ := h
    have hb : ¬ b = 0 := by omega
    refine ⟨_, _, h4, ?_, rfl⟩
    simp [binOp, Op.intDiv, hb, Int.tmod_eq_emod_of_nonneg h1]
  case and =>
    obtain ⟨⟨rfl, h1⟩, h4⟩ := h
    exact ⟨_, _, h4, by simp only [binOp]; exact and_u64 h1 w, rfl⟩
  case or =>
    obtain ⟨⟨rfl, h1⟩, h4⟩ := h
    exact ⟨_, _, h4, by simp only [binOp]; exact or_u64 h1 w, rfl⟩
  case andNot =>
    obtain ⟨⟨rfl, h1⟩, h4⟩ := h
    exact ⟨_, _, h4, by simp only [binOp]; exact andNot_u64 h1 w, rfl⟩
  all_goals exact ⟨_, _, h, (by simp [binOp, Op.intCmp] <;> rfl), rfl⟩
end Go.Aw

namespace Go.Aw
open Go.RowKit
variable {P : Program}

theorem bK_inv {x : V} {k : Bool → Prop} (h : bK x k) : ∃ t, x = .d (.c (.bool t)) ∧ k t := by
  unfold bK at h
  split at h
  · exact ⟨_, rfl, h⟩
  · exact h.elim
theorem iK_inv {x : V} {k : IntKind → Int → Prop} (h : iK x k) : ∃ q n, x = .d (.c (.int q n)) ∧ k q n := by
  unfold iK at h
  split at h
  · exact ⟨_, _, rfl, h⟩
  · exact h.elim
theorem nthK_inv {α : Type} {xs : List α} {i : Nat} {k : α → Prop} (h : nthK xs i k) : ∃ y, xs[i]? = some y ∧ k y := by
  induction xs generalizing i with
  | nil => exact h.elim
  | cons x xs ih =>
    cases i with
    | zero => exact ⟨x, rfl, h⟩
    | succ i => simpa using ih h
theorem hdK_inv {xs : List D} {k : D → Prop} (h : hdK xs k) : ∃ y ys, xs = y :: ys ∧ k y := by
  cases xs with
  | nil => exact h.elim
  | cons x xs => exact ⟨x, xs, rfl, h⟩
theorem rwK_inv {σ : St} {r : Nat} {k : Row → Prop} (h : rwK σ r k) : ∃ row, σ.rw[r]? = some (some row) ∧ k row := by
  unfold rwK at h
  split at h
  · rename_i row hrow
    refine ⟨row, ?_, h⟩
    rw [List.getD_eq_getElem?_getD] at hrow
    cases hx : σ.rw[r]? with
    | none => rw [hx] at hrow; cases hrow
    | some y => rw [hx] at hrow; exact congrArg some hrow
  · exact h.elim
theorem dK_inv {E : Env} {w : World} {μ : Map} {σ : St} {x : V} {v : Value} {k : D → Prop} (h : dK x k) (hr : RelV E w μ σ x v) : ∃ d, RelD w (Fz E w μ σ) d v ∧ k d := by
  unfold dK at h
  split at h
  · exact ⟨_, hr, h⟩
  · exact ⟨.l [], by rw [show v = .slice none 0 0 from hr]; exact .nl none 0, h⟩
  · exact h.elim
theorem rel_c {E : Env} {w : World} {μ : Map} {σ : St} {c v : Value} (h : RelV E w μ σ (.d (.c c)) v) : v = c := by
  cases h; rfl
theorem relD_c {w : World} {N : Nat → Prop} {c v : Value} (h : RelD w N (.c c) v) : v = c := by
  cases h; rfl

/-- A pointer into a box: what lies there. -/
theorem box_cell {E : Env} {σ : St} {μ : Map} {a : Act} {w : World} (hr : Rel E σ μ a w) {b sub : Nat} {z : V} (hb : b < σ.bx.length) (hz : (σ.bx.getD b .j).cells[sub]? = some z) :
    ∃ u, w.cell? ⟨μ.b b, sub, none⟩ = some u ∧ RelV E w μ σ z u := by
  have hbx : σ.bx[b]? = some (σ.bx.getD b .j) := by simp [hb]
  obtain ⟨C, et, h1, h2, h3⟩ := hr.mem.box b _ hbx
  have hlt : sub < C.size := by rw [h2]; exact (List.getElem?_eq_some_iff.1 hz).1
  refine ⟨C[sub], ?_, h3 sub z _ hz (by simp [hlt])⟩
  simp [World.cell?, h1, hlt]

theorem row_cell {E : Env} {σ : St} {μ : Map} {a : Act} {w : World} (hr : Rel E σ μ a w) {r i sub : Nat} {row : Row} {b sh : Nat} (hrow : σ.rw[r]? = some (some row)) (hm : μ.r r = some (b, sh)) {x y : D} (hx : row.xs[i]? = some x) (hy : x.cells[sub]? = some y) :
    ∃ u, w.cell? ⟨b, sh + i * row.sz + sub, none⟩ = some u ∧ RelD w (Fz E w μ σ) y u := by
  have := hr.mem.row r row hrow
  rw [hm] at this
  obtain ⟨h0, h1, C, et, h2, h3, h4⟩ := this
  have hs : sub < row.sz := by rw [← h1 x (List.mem_of_getElem? hx)]; exact (List.getElem?_eq_some_iff.1 hy).1
  have hi : i < row.xs.length := (List.getElem?_eq_some_iff.1 hx).1
  have hlt : sh + i * row.sz + sub < C.size := by
    have : (i + 1) * row.sz ≤ row.xs.length * row.sz := Nat.mul_le_mul_right _ hi
    rw [Nat.succ_mul] at this
    omega
  refine ⟨C[sh + i * row.sz + sub], ?_, h4 i sub x y _ hx hy (by simp [hlt])⟩
  simp [World.cell?, h2, hlt]

theorem addr_add (b o n : Nat) : (⟨b, o, none⟩ : Addr).add n = ⟨b, o + n, none⟩ := by
  unfold Addr.add
  split <;> simp_all

theorem load_agg_at {w : World} {t : TypeId} {n : Nat} {b o : Nat} {N : Nat → Prop} {ds : List D} (ht : tyOf P t = some (true, n)) (hn : ds.length = n)
    (h : ∀ (k : Nat) (y : D), ds[k]? = some y → ∃ u, w.cell? ⟨b, o + k, none⟩ = some u ∧ RelD w N y u) :
    ∃ u, (Instr.loadAt t (.pointer (some ⟨b, o, none⟩))).run P w = .ok u w ∧ RelD w N (.s ds) u := by
  have hf : ∀ k, ∃ u, ∀ y, ds[k]? = some y → w.cell? ⟨b, o + k, none⟩ = some u ∧ RelD w N y u := fun k => by
    cases hk : ds[k]? with
    | none => exact ⟨undef, fun y hy => by cases hy⟩
    | some y => obtain ⟨u, h1⟩ := h k y hk; exact ⟨u, fun y' hy' => by cases hy'; exact h1⟩
  let u : Nat → Value := fun k => Classical.choose (hf k)
  have hu : ∀ k y, ds[k]? = some y → w.cell? ⟨b, o + k, none⟩ = some (u k) ∧ RelD w N y (u k) := fun k => Classical.choose_spec (hf k)
  have hl : (loadCells ⟨b, o, none⟩ ((List.range n).map u).length).run P w = .ok ((List.range n).map u).toArray w :=
    run_loadCells_list (P := P) w ⟨b, o, none⟩ ((List.range n).map u) (fun j v hv => by
      have hj : j < n := by have := (List.getElem?_eq_some_iff.1 hv).1; simpa using this
      rw [List.getElem?_map, List.getElem?_range hj] at hv
      simp at hv
      subst hv
      rw [addr_add]
      exact (hu j _ (List.getElem?_eq_getElem (by omega))).1)
  simp only [List.length_map, List.length_range] at hl
  refine ⟨.agg ((List.range n).map u).toArray, ?_, .s _ _ (by simp; omega) (fun k y v hy hv => ?_)⟩
  · simp [Instr.loadAt, Instr.sureAddr, loadVar, run_isAgg_ty ht, run_sizeOf_ty ht, hl]
  · have hk : k < n := by have := (List.getElem?_eq_some_iff.1 hy).1; omega
    simp [hk] at hv
    subst hv
    exact (hu k y hy).2

theorem ldK_sound {t : TypeId} {E : Env} {σ : St} {μ : Map} {a : Act} {w : World} {x : V} {v : Value} {C : V → Prop} (h : ldK P t σ x C) (hr : Rel E σ μ a w) (hv : RelV E w μ σ x v) :
    ∃ y u, C y ∧ (Instr.loadAt t v).run P w = .ok u w ∧ RelV E w μ σ y u := by
  unfold ldK at h
  split at h
  · obtain ⟨g, n, ht, h⟩ := h
    cases g with
    | true =>
      obtain ⟨u, h1, h2⟩ := loadQ_agg ht h.1 hv
      exact ⟨_, u, h.2, h1, h2⟩
    | false =>
      obtain ⟨y, ys, rfl, hC⟩ := hdK_inv h
      obtain ⟨u, h1, h2⟩ := loadQ_one ht hv
      exact ⟨_, u, hC, h1, h2⟩
  · rename_i b sub
    obtain ⟨hb, rfl⟩ := hv
    obtain ⟨g, n, ht, h⟩ := h
    cases g with
    | true =>
      dsimp only at h
      split at h
      · rename_i ds hds
        split at h
        · rename_i hn
          obtain ⟨h0, hC⟩ := h
          subst h0
          obtain ⟨u, h1, h2⟩ := load_agg_at (P := P) (w := w) (N := Fz E w μ σ) (b := μ.b b) (o := 0) ht hn (fun k y hy => by
            have := box_cell hr (sub := k) (z := .d y) hb (by rw [hds]; simp [V.cells, hy])
            rw [Nat.zero_add]
            exact this)
          exact ⟨_, u, hC, h1, h2⟩
        · obtain ⟨hn, hC⟩ := h
          obtain ⟨u, h1, h2⟩ := load_agg_at (P := P) (w := w) (N := Fz E w μ σ) (b := μ.b b) (o := sub) (ds := (ds.drop sub).take n) ht (by simp; omega) (fun k y hy => by
            have hy' : ds[sub + k]? = some y := by
              rw [List.getElem?_take] at hy
              split at hy
              · rw [List.getElem?_drop] at hy; exact hy
              · cases hy
            exact box_cell hr (sub := sub + k) (z := .d y) hb (by rw [hds]; simp [V.cells, hy']))
          exact ⟨_, u, hC, h1, h2⟩
      · exact h.elim
    | false =>
      obtain ⟨z, hz, hC⟩ := nthK_inv h
      obtain ⟨u, h1, h2⟩ := box_cell hr hb hz
      refine ⟨z, u, hC, ?_, h2⟩
      simp [Instr.loadAt, Instr.sureAddr, loadVar, run_isAgg_ty ht, h1]
  · rename_i r i sub
    obtain ⟨row, hrow, g, n, ht, h⟩ := rwK_inv h
    obtain ⟨_, hv⟩ := hv
    obtain ⟨hi, b, sh, hm, rfl⟩ := hv row hrow
    cases g with
    | true =>
      obtain ⟨rfl, hn, x, hx, h⟩ := h
      split at h
      · rename_i ds
        have hw := hr.mem.row r row hrow
        rw [hm] at hw
        have hlen : ds.length = n := by rw [hn]; exact hw.2.1 _ (List.mem_of_getElem? hx)
        obtain ⟨u, h1, h2⟩ := load_agg_at (P := P) (w := w) (N := Fz E w μ σ) (b := b) (o := sh + i * row.sz + 0) ht hlen (fun k y hy => row_cell hr hrow hm hx hy)
        exact ⟨_, u, h, h1, h2⟩
      · exact h.elim
    | false =>
      obtain ⟨x, hx, h⟩ := h
      obtain ⟨y, hy, hC⟩ := nthK_inv h
      obtain ⟨u, h1, h2⟩ := row_cell hr hrow hm hx hy
      refine ⟨.d y, u, hC, ?_, h2⟩
      simp [Instr.loadAt, Instr.sureAddr, loadVar, run_isAgg_ty ht, h1]
  · exact h.elim

theorem faK_sound {t : TypeId} {f : Nat} {E : Env} {σ : St} {μ : Map} {w : World} {x : V} {v : Value} {C : V → Prop} (h : faK P t σ f x C) (hv : RelV E w μ σ x v) :
    ∃ y u, C y ∧ (Instr.fieldAt t v f).run P w = .ok u w ∧ RelV E w μ σ y u := by
  obtain ⟨off, n, hf, hn, h⟩ := h
  obtain ⟨n, rfl⟩ : ∃ m, n = m + 1 := ⟨n - 1, by omega⟩
  have key : ∀ ad : Addr, (Instr.fieldAt t (.pointer (some ad)) f).run P w = .ok (.pointer (some (ad.add off))) w := fun ad => by
    unfold fdOf at hf
    split at hf
    · rename_i fs hfs
      split at hf
      · rename_i fd hfd
        split at hf
        · rename_i i hi
          simp only [Option.some.injEq, Prod.mk.injEq] at hf
          simp [Instr.fieldAt, run_underlying hfs, hfd, Instr.sureAddr, fieldPlace, sizeOf, typeInfo, hi, hf.1, hf.2]
        · cases hf
      · cases hf
    · cases hf
  split at h
  · obtain ⟨u, h1, h2⟩ := fieldQ hf hv
    exact ⟨_, u, h, h1, h2⟩
  · obtain ⟨hb, rfl⟩ := hv
    exact ⟨_, _, h, key _, hb, by rw [addr_add]⟩
  · rename_i r i sub
    obtain ⟨row, hrow, h⟩ := rwK_inv h
    obtain ⟨⟨hlt, _⟩, hv⟩ := hv
    obtain ⟨hi, b, sh, hm, rfl⟩ := hv row hrow
    refine ⟨_, _, h, key _, ⟨hlt, _, rfl⟩, fun row' hrow' => ?_⟩
    rw [hrow] at hrow'
    cases hrow'
    exact ⟨hi, b, sh, hm, by rw [addr_add, Nat.add_assoc]⟩
  · exact h.elim

theorem iaK_sound {t : TypeId} {k : IntKind} {i : Int} {E : Env} {σ : St} {μ : Map} {w : World} {x : V} {v : Value} {C : V → Prop} (h : iaK P t σ x i C) (hv : RelV E w μ σ x v) (hfx : ∀ (v : Value) (x : V), (v, x) ∈ σ.fx → RelV E w μ σ x v) :
    ∃ y u, C y ∧ (Instr.indexAt t v (.int k i)).run P w = .ok u w ∧ RelV E w μ σ y u := by
  unfold iaK at h
  split at h
  · obtain ⟨h0, e, he, x, hx, ⟨g, n, hg, hn⟩, hC⟩ := h
    obtain ⟨u, h1, h2⟩ := indexL (P := P) (k := k) he (hn ▸ hg) h0 hx hv
    exact ⟨_, u, hC, h1, h2⟩
  · rename_i r off len
    obtain ⟨⟨h0, hl⟩, e, he, h⟩ := h
    obtain ⟨row, hrow, ⟨g, n, hg, hn⟩, hC⟩ := rwK_inv h
    obtain ⟨⟨hlt, _⟩, hv⟩ := hv
    obtain ⟨hle, hv⟩ := hv row hrow
    rcases hv with ⟨_, _, hz⟩ | ⟨b, sh, A, cap, hm, rfl, hcap, hA, hroom⟩
    · omega
    · obtain rfl := hA (.inl (by omega))
      refine ⟨_, .pointer (some ⟨b, sh + (off + i.toNat) * row.sz, none⟩), hC, ?_, ⟨hlt, _, rfl⟩, fun row' hrow' => ?_⟩
      · simp [Instr.indexAt, asIntOf, run_und_sl he, run_sizeOf_ty hg, h0, hl, addr_add, ← hn, Nat.add_mul, Nat.add_assoc]
      · rw [hrow] at hrow'
        cases hrow'
        exact ⟨by omega, b, sh, hm, rfl⟩
  · rename_i u0
    obtain ⟨r, off, len, hmem, ⟨h0, hl⟩, e, he, h⟩ := h
    have hv0 : v = u0 := by cases hv; rfl
    subst hv0
    replace hv := hfx _ _ hmem
    obtain ⟨row, hrow, ⟨g, n, hg, hn⟩, hC⟩ := rwK_inv h
    obtain ⟨⟨hlt, _⟩, hv⟩ := hv
    obtain ⟨hle, hv⟩ := hv row hrow
    rcases hv with ⟨_, _, hz⟩ | ⟨b, sh, A, cap, hm, rfl, hcap, hA, hroom⟩
    · omega
    · obtain rfl := hA (.inl (by omega))
      refine ⟨_, .pointer (some ⟨b, sh + (off + i.toNat) * row.sz, none⟩), hC, ?_, ⟨hlt, _, rfl⟩, fun row' hrow' => ?_⟩
      · simp [Instr.indexAt, asIntOf, run_und_sl he, run_sizeOf_ty hg, h0, hl, addr_add, ← hn, Nat.add_mul, Nat.add_assoc]
      · rw [hrow] at hrow'
        cases hrow'
        exact ⟨by omega, b, sh, hm, rfl⟩
  · exact h.elim

theorem run_sliceBounds {len cap : Nat} {lo hi : Option Value} {l h : Int} (w : World) (hlo : lo = none ∧ l = 0 ∨ ∃ k, lo = some (.int k l)) (hhi : hi = none ∧ h = len ∨ ∃ k, hi = some (.int k h))
    (h1 : 0 ≤ l) (h2 : l ≤ h) (h3 : h ≤ len) (h4 : len ≤ cap) : (Instr.sliceBounds true len cap lo hi none).run P w = .ok (l.toNat, h.toNat, cap) w := by
  have hb1 : h ≤ (cap : Int) := by omega
  have hb0 : 0 ≤ h := by omega
  have e : ((h.toNat : Nat) : Int) = h := by omega
  rcases hlo with ⟨rfl, rfl⟩ | ⟨k, rfl⟩ <;> rcases hhi with ⟨rfl, rfl⟩ | ⟨k', rfl⟩
  · simp [Instr.sliceBounds]
  · simp [Instr.sliceBounds, Instr.sliceBound, asIntOf, hb0, hb1]
  · simp [Instr.sliceBounds, Instr.sliceBound, asIntOf, h1, h2]
  · simp [Instr.sliceBounds, Instr.sliceBound, asIntOf, h1, h2, hb0, hb1, e]

theorem sl3K_sound {t : TypeId} {E : Env} {σ : St} {μ : Map} {w : World} {x : V} {v : Value} {C : V → Prop} {lo hi : Option Int} {lo' hi' : Option Value} {m : Int} {km : IntKind} (hlo : lo = none ∧ lo' = none ∨ ∃ k n, lo = some n ∧ lo' = some (.int k n))
    (hhi : hi = none ∧ hi' = none ∨ ∃ k n, hi = some n ∧ hi' = some (.int k n)) (h : sl3K P t x lo hi m C) (hv : RelV E w μ σ x v) :
    ∃ y u, C y ∧ (Instr.sliceAt t v lo' hi' (some (.int km m))).run P w = .ok u w ∧ RelV E w μ σ y u := by
  unfold sl3K at h
  split at h
  · rename_i xs
    obtain ⟨⟨rfl, rfl, rfl⟩, e, he, ⟨g, n, hg, hC⟩⟩ := h
    obtain ⟨_, rfl⟩ : True ∧ lo' = none := by
      rcases hlo with ⟨_, h⟩ | ⟨k, n, h, _⟩
      · exact ⟨trivial, h⟩
      · cases h
    obtain ⟨kh, rfl⟩ : ∃ kh, hi' = some (.int kh (xs.length : Int)) := by
      rcases hhi with ⟨h, _⟩ | ⟨k, n, h, h'⟩
      · cases h
      · cases h; exact ⟨k, h'⟩
    obtain ⟨A, cap, rfl, hcap, hxs⟩ := RelD.l_inv hv
    have hb1 : (xs.length : Int) ≤ (cap : Int) := by omega
    refine ⟨_, .slice A xs.length xs.length, hC, ?_, ?_⟩
    · have hb : (Instr.sliceBounds true xs.length cap none (some (.int kh (xs.length : Int))) (some (.int km (xs.length : Int)))).run P w = .ok (0, xs.length, xs.length) w := by
        simp [Instr.sliceBounds, Instr.sliceBound, asIntOf, hb1]
      have ha : ∀ A : Option Addr, (if xs.length = 0 then A else A.map (·.add (0 * n))) = A := fun A => by
        split
        · rfl
        · cases A with
          | none => rfl
          | some ad => simp [Addr.add]
      simp only [Instr.sliceAt, run_und_sl he, Instr.slice, hb, run_sizeOf_ty hg, Sem.run_bind, Sem.run_pure, Result.andThen_ok]
      rw [ha]; rfl
    · show RelD _ _ (.tight xs) _
      refine .tight xs A ?_
      cases hv with
      | nl a cap => exact .nl _ _
      | l _ ad cap sz u hc hN hs hu hr => exact .l xs ad _ sz u (Nat.le_refl _) hN hs hu hr
  · exact h.elim

theorem sliK_sound {t : TypeId} {E : Env} {σ : St} {μ : Map} {w : World} {x : V} {v : Value} {C : V → Prop} {lo hi : Option Int} {lo' hi' : Option Value} (hlo : lo = none ∧ lo' = none ∨ ∃ k n, lo = some n ∧ lo' = some (.int k n))
    (hhi : hi = none ∧ hi' = none ∨ ∃ k n, hi = some n ∧ hi' = some (.int k n)) (h : sliK P t σ x lo hi C) (hv : RelV E w μ σ x v) :
    ∃ y u, C y ∧ (Instr.sliceAt t v lo' hi' none).run P w = .ok u w ∧ RelV E w μ σ y u := by
  have gl : lo' = none ∧ lo.getD 0 = 0 ∨ ∃ k, lo' = some (.int k (lo.getD 0)) := by
    rcases hlo with ⟨rfl, rfl⟩ | ⟨k, n, rfl, rfl⟩
    · exact .inl ⟨rfl, rfl⟩
    · exact .inr ⟨k, rfl⟩
  have gh : ∀ len : Nat, hi' = none ∧ hi.getD len = len ∨ ∃ k, hi' = some (.int k (hi.getD len)) := fun len => by
    rcases hhi with ⟨rfl, rfl⟩ | ⟨k, n, rfl, rfl⟩
    · exact .inl ⟨rfl, rfl⟩
    · exact .inr ⟨k, rfl⟩
  unfold sliK at h
  split at h
  · obtain ⟨h1, h2, e, he, g, n, hg, hC⟩ := h
    obtain rfl : v = .slice none 0 0 := hv
    refine ⟨_, .slice none 0 0, hC, ?_, rfl⟩
    have hb := run_sliceBounds (P := P) (len := 0) (cap := 0) (l := lo.getD 0) (h := hi.getD 0) w gl.symm.symm (by simpa using gh 0) (by omega) (by omega) (by omega) (Nat.le_refl _)
    simp [Instr.sliceAt, run_und_sl he, Instr.slice, hb, run_sizeOf_ty hg, h1, h2]
  · rename_i xs
    obtain ⟨⟨h1, h2, h3⟩, e, he, ⟨g, n, hg, hn⟩, hC⟩ := h
    obtain ⟨A, cap, rfl, hcap, hxs⟩ := RelD.l_inv hv
    have hb := run_sliceBounds (P := P) (len := xs.length) (cap := cap) (l := lo.getD 0) (h := hi.getD xs.length) w gl (gh _) h1 h2 h3 hcap
    obtain ⟨l, hl⟩ := Int.eq_ofNat_of_zero_le h1
    obtain ⟨m, hm⟩ := Int.eq_ofNat_of_zero_le (show 0 ≤ hi.getD (xs.length : Int) by omega)
    rw [hl, hm] at hb hC h2
    rw [hm] at h3
    have h2' : l ≤ m := by omega
    have h3' : m ≤ xs.length := by omega
    simp only [Int.toNat_natCast] at hb hC
    refine ⟨_, .slice (if cap = l then A else A.map (·.add (l * n))) (m - l) (cap - l), hC, ?_, ?_⟩
    · simp [Instr.sliceAt, run_und_sl he, Instr.slice, hb, run_sizeOf_ty hg]
    · have hlen : ((xs.take m).drop l).length = m - l := by simp; omega
      by_cases hz : m - l = 0
      · have : (xs.take m).drop l = [] := List.eq_nil_of_length_eq_zero (by omega)
        show RelD _ _ (.l ((xs.take m).drop l)) _
        rw [this, hz]
        exact .nl _ _
      · have hcl : cap ≠ l := by omega
        have hl0 : 0 < xs.length := by omega
        cases hv with
        | nl => simp at hl0
        | l _ ad cap sz u hc hN hs hu hrr =>
          have hsz : sz = n := by
            have hx0 := List.getElem?_eq_getElem hl0
            rw [← hs 0 _ hx0]
            exact hn _ (List.mem_of_getElem? hx0)
          subst hsz
          show RelD _ _ (.l ((xs.take m).drop l)) _
          rw [if_neg hcl, ← hlen]
          have hget : ∀ (i : Nat) (x : D), ((xs.take m).drop l)[i]? = some x → xs[l + i]? = some x := fun i x hx => by
            rw [List.getElem?_drop, List.getElem?_take] at hx
            split at hx
            · exact hx
            · cases hx
          refine .l _ (ad.add (l * sz)) _ sz (fun i k => u (l + i) k) (by omega) (by rw [add_block]; exact hN) (fun i x hx => hs _ x (hget i x hx)) (fun i k x y hx hy => ?_) (fun i k x y hx hy => hrr _ k x y (hget i x hx) hy)
          have := hu _ k x y (hget i x hx) hy
          rw [add_add', ← this]
          congr 2
          rw [Nat.add_mul]; omega
  · rename_i r off len
    obtain ⟨⟨h1, h2, h3⟩, e, he, g, n, hg, h⟩ := h
    obtain ⟨hrw, hC⟩ := h
    obtain ⟨row, hrow, hsz⟩ := rwK_inv hrw
    obtain ⟨⟨hlt, _⟩, hv⟩ := hv
    obtain ⟨hle, hv⟩ := hv row hrow
    rcases hv with ⟨hm0, rfl, rfl⟩ | ⟨b, sh, A, cap, hm, rfl, hcap, hA, hroom⟩
    · have hb := run_sliceBounds (P := P) (len := 0) (cap := 0) (l := lo.getD 0) (h := hi.getD (0 : Nat)) w gl (gh 0) h1 h2 h3 (Nat.le_refl _)
      have e2 : hi.getD ((0 : Nat) : Int) = ((0 : Nat) : Int) := by omega
      have e1 : lo.getD 0 = 0 := by omega
      refine ⟨_, .slice none 0 0, hC, ?_, ⟨hlt, _, _, _, rfl⟩, fun row' hrow' => ?_⟩
      · rw [e1, e2] at hb
        simp at hb
        simp [Instr.sliceAt, run_und_sl he, Instr.slice, hb, run_sizeOf_ty hg]
      · rw [hrow] at hrow'
        cases hrow'
        exact ⟨by rw [e1, e2]; simp; omega, .inl ⟨hm0, rfl, by rw [e1, e2]; rfl⟩⟩
    · have hb := run_sliceBounds (P := P) (len := len) (cap := cap) (l := lo.getD 0) (h := hi.getD (len : Int)) w gl (gh _) h1 h2 h3 hcap
      obtain ⟨l, hl⟩ := Int.eq_ofNat_of_zero_le h1
      obtain ⟨m, hm'⟩ := Int.eq_ofNat_of_zero_le (show 0 ≤ hi.getD (len : Int) by omega)
      rw [hl, hm'] at hb hC h2
      rw [hm'] at h3
      have h2' : l ≤ m := by omega
      have h3' : m ≤ len := by omega
      simp only [Int.toNat_natCast] at hb hC
      have e0 : ((m : Int) - (l : Int)).toNat = m - l := by omega
      rw [e0] at hC
      refine ⟨_, .slice (if cap = l then A else A.map (·.add (l * n))) (m - l) (cap - l), hC, ?_, ⟨hlt, _, _, _, rfl⟩, fun row' hrow' => ?_⟩
      · simp [Instr.sliceAt, run_und_sl he, Instr.slice, hb, run_sizeOf_ty hg]
      · rw [hrow] at hrow'
        cases hrow'
        refine ⟨by omega, .inr ⟨b, sh, _, _, hm, rfl, by omega, fun hpos => ?_, ?_⟩⟩
        · by_cases hcl : cap = l
          · have hoff : off = 0 := by omega
            have hl0 : l = 0 := by omega
            rw [if_pos hcl, hA (.inr hoff), hoff, hl0]
          · rw [if_neg hcl, hA (.inl (by omega))]
            simp only [Option.map_some, addr_add, hsz]
            congr 2
            rw [Nat.add_mul]; omega
        · have : off + l + (cap - l) = off + cap := by omega
          rw [this]; exact hroom
  · exact h.elim
end Go.Aw

namespace Go.Aw
open Go.RowKit
variable {P : Program}

theorem binE_sound {op : BinOp} {t : TypeId} {ox oy : Operand} {E : Env} {σ : St} {μ : Map} {w : World} {x y : V} {vx vy : Value} {C : V → Prop} (h : binE P op t ox oy x y C) (hx : RelV E w μ σ x vx) (hy : RelV E w μ σ y vy) :
    ∃ z u, C z ∧ (do eqGuard op t ox oy vx vy; binOp op t vx vy : Sem Value).run P w = .ok u w ∧ RelV E w μ σ z u := by
  unfold binE at h
  split at h
  · obtain rfl := rel_c hx
    obtain rfl := rel_c hy
    unfold binC at h
    split at h
    · obtain ⟨hk, h⟩ := h
      obtain ⟨z, u, hC, h1, rfl⟩ := binI_sound (P := P) (t := t) hk h w
      refine ⟨_, u, hC, ?_, .c u⟩
      have hg : ∀ k k' (m n : Int), (eqGuard op t ox oy (.int k m) (.int k' n)).run P w = .ok () w := fun k k' m n => by
        unfold eqGuard
        cases op <;> rfl
      rw [Sem.run_bind, hg]
      exact h1
    · obtain ⟨r, hr, hC⟩ := h
      exact ⟨_, r, hC, hr w, .c r⟩
  · rename_i a b
    unfold bin2 at h
    split at h
    · rename_i a0 a1 b0 b1
      obtain ⟨r, hr, hC⟩ := h
      have inv : ∀ {p q : Value} {v : Value}, RelV E w μ σ (.d (.s [.c p, .c q])) v → v = .agg #[p, q] := fun {p q v} hv => by
        cases hv with
        | s _ us hl hr =>
          obtain ⟨l⟩ := us
          match l, hl with
          | [u0, u1], _ =>
            have e0 := relD_c (hr 0 _ u0 rfl rfl)
            have e1 := relD_c (hr 1 _ u1 rfl rfl)
            rw [e0, e1]
      obtain rfl := inv hx
      obtain rfl := inv hy
      exact ⟨_, r, hC, hr w, .c r⟩
    · exact h.elim
  · exact h.elim

theorem RelD.one_ {w : World} {N : Nat → Prop} {d : D} {v : Value} (h : RelD w N d v) (h1 : d.one = true) : v.oneCell' = true := by
  cases h <;> first | exact h1 | rfl | (simp [D.one] at h1)

theorem one_cells {v : Value} (h : v.oneCell' = true) : v.cells = #[v] := by
  cases v <;> first | rfl | (simp [Value.oneCell'] at h)

theorem cells_rel {w : World} {N : Nat → Prop} {d : D} {v : Value} (h : RelD w N d v) (h1 : d.cells.all D.one = true) :
    v.cells.size = d.cells.length ∧ (∀ (k : Nat) (y : D) (u : Value), d.cells[k]? = some y → v.cells[k]? = some u → RelD w N y u ∧ u.oneCell' = true) := by
  by_cases hs : ∃ xs, d = .s xs
  · obtain ⟨xs, rfl⟩ := hs
    cases h with
    | s _ us hl hr =>
      exact ⟨hl, fun k y u hy hu => ⟨hr k y u hy hu, (hr k y u hy hu).one_ (List.all_eq_true.1 h1 y (List.mem_of_getElem? hy))⟩⟩
  · have hc : d.cells = [d] := by cases d <;> first | rfl | exact absurd ⟨_, rfl⟩ hs
    rw [hc] at h1 ⊢
    have h2 := h.one_ (by simpa using h1)
    rw [one_cells h2]
    refine ⟨rfl, fun k y u hy hu => ?_⟩
    cases k with
    | zero => simp at hy hu; subst hy; subst hu; exact ⟨h, h2⟩
    | succ k => simp at hy

/-- Cells laid into a row of cells. -/
theorem foldl_set_get (l : List (Value × Nat)) (off : Nat) : ∀ (cs : Array Value) (n0 : Nat), (∀ (j : Nat) (x : Value × Nat), l[j]? = some x → x.2 = n0 + j) → off + n0 + l.length ≤ cs.size →
    (l.foldl (fun cs (x : Value × Nat) => cs.setIfInBounds (off + x.2) x.1) cs).size = cs.size ∧
    ∀ i, (l.foldl (fun cs (x : Value × Nat) => cs.setIfInBounds (off + x.2) x.1) cs)[i]? = if off + n0 ≤ i ∧ i < off + n0 + l.length then (l[i - (off + n0)]?).map (·.1) else cs[i]? := by
  induction l with
  | nil => intro cs n0 _ _; refine ⟨rfl, fun i => ?_⟩; rw [if_neg (by simp only [List.length_nil]; omega)]; rfl
  | cons x l ih =>
    intro cs n0 hj hs
    have h0 : x.2 = n0 := by simpa using hj 0 x rfl
    simp only [List.length_cons] at hs
    obtain ⟨h1, h2⟩ := ih (cs.setIfInBounds (off + x.2) x.1) (n0 + 1) (fun j y hy => by have := hj (j + 1) y (by simpa using hy); omega) (by simp; omega)
    simp only [List.foldl_cons, List.length_cons]
    refine ⟨by rw [h1]; simp, fun i => ?_⟩
    rw [h2]
    by_cases ha : i = off + n0
    · subst ha
      rw [if_neg (by omega), if_pos (by omega)]
      rw [h0, Nat.sub_self, List.getElem?_cons_zero]
      rw [Array.getElem?_setIfInBounds, if_pos rfl, if_pos (show off + n0 < cs.size by omega)]
      rfl
    · rw [Array.getElem?_setIfInBounds_ne (by omega)]
      by_cases hb : off + n0 ≤ i ∧ i < off + n0 + (l.length + 1)
      · rw [if_pos hb, if_pos (by omega)]
        have : i - (off + n0) = (i - (off + (n0 + 1))) + 1 := by omega
        rw [this, List.getElem?_cons_succ]
      · rw [if_neg hb, if_neg (by omega)]

theorem fill_two {cells : Array Value} {v0 v1 : Value} {place : Nat → Option (Nat × Nat)} {m n : Nat} (h0 : v0.cells.size = m) (h1 : v1.cells.size = n) (hp0 : place 0 = some (0, m)) (hp1 : place 1 = some (m, n)) (hs : cells.size = m + n) :
    Instr.fill place cells [(0, v0), (1, v1)] = some (v0.cells ++ v1.cells) := by
  have hz : ∀ (A : Array Value) (j : Nat) (x : Value × Nat), A.zipIdx.toList[j]? = some x → x.2 = 0 + j ∧ A[j]? = some x.1 := fun A j x hx => by
    rw [Array.getElem?_toList, Array.getElem?_zipIdx] at hx
    cases hA : A[j]? with
    | none => simp [hA] at hx
    | some y => simp [hA] at hx; subst hx; simp
  have e1 : ¬ (v0.cells.size ≠ m ∨ 0 + v0.cells.size > cells.size) := by omega
  obtain ⟨s1, g1⟩ := foldl_set_get v0.cells.zipIdx.toList 0 cells 0 (fun j x hx => (hz _ j x hx).1) (by simp; omega)
  have e2 : ¬ (v1.cells.size ≠ n ∨ m + v1.cells.size > (List.foldl (fun cs (x : Value × Nat) => cs.setIfInBounds (0 + x.2) x.1) cells v0.cells.zipIdx.toList).size) := by rw [s1]; omega
  obtain ⟨s2, g2⟩ := foldl_set_get v1.cells.zipIdx.toList m (List.foldl (fun cs (x : Value × Nat) => cs.setIfInBounds (0 + x.2) x.1) cells v0.cells.zipIdx.toList) 0 (fun j x hx => (hz _ j x hx).1) (by rw [s1]; simp; omega)
  simp only [Instr.fill, hp0, hp1, ← Array.foldl_toList]
  have c1 : (decide (v0.cells.size ≠ m) || decide (0 + v0.cells.size > cells.size)) = false := by simpa using e1
  have c2 : (decide (v1.cells.size ≠ n) || decide (m + v1.cells.size > (List.foldl (fun cs (x : Value × Nat) => cs.setIfInBounds (0 + x.2) x.1) cells v0.cells.zipIdx.toList).size)) = false := by simpa using e2
  rw [if_neg (by simpa using e1), if_neg (by simpa using e2)]
  congr 1
  apply Array.ext_getElem?
  intro i
  have hl0 : v0.cells.zipIdx.toList.length = m := by simp [h0]
  have hl1 : v1.cells.zipIdx.toList.length = n := by simp [h1]
  rw [g2, g1, hl0, hl1]
  rw [Array.getElem?_append]
  by_cases ha : i < m
  · rw [if_neg (by omega), if_pos (by omega), if_pos (by omega)]
    cases hx : v0.cells.zipIdx.toList[i - (0 + 0)]? with
    | none => have := List.getElem?_eq_none_iff.1 hx; omega
    | some x => have := (hz _ _ x hx).2; simp at this; simp [this]
  · rw [if_neg (show ¬ i < v0.cells.size by omega)]
    by_cases hb : i < m + n
    · rw [if_pos (by omega)]
      cases hx : v1.cells.zipIdx.toList[i - (m + 0)]? with
      | none => have := List.getElem?_eq_none_iff.1 hx; omega
      | some x => have := (hz _ _ x hx).2; simp at this; simp [this, h0]
    · rw [if_neg (by omega), if_neg (by omega), Array.getElem?_eq_none (by omega), Array.getElem?_eq_none (by omega)]
end Go.Aw

namespace Go.Aw
open Go.RowKit
variable {P : Program}

theorem append_rel {w : World} {N : Nat → Prop} {xs ys : List D} {us vs : Array Value} (h1 : us.size = xs.length)
    (hx : ∀ (k : Nat) (y : D) (u : Value), xs[k]? = some y → us[k]? = some u → RelD w N y u) (hy : ∀ (k : Nat) (y : D) (u : Value), ys[k]? = some y → vs[k]? = some u → RelD w N y u) :
    ∀ (k : Nat) (y : D) (u : Value), (xs ++ ys)[k]? = some y → (us ++ vs)[k]? = some u → RelD w N y u := fun k y u hk hu => by
  by_cases h : k < xs.length
  · rw [List.getElem?_append_left h] at hk
    rw [Array.getElem?_append_left (by omega)] at hu
    exact hx k y u hk hu
  · rw [List.getElem?_append_right (by omega)] at hk
    rw [Array.getElem?_append_right (by omega), h1] at hu
    exact hy _ y u hk hu

theorem build_sound {t : TypeId} {m n : Nat} {w : World} {N : Nat → Prop} {x y : D} {vx vy : Value} (ht : bdOf P t = some (m, n)) (hm : x.cells.length = m) (hn : y.cells.length = n) (ox : x.cells.all D.one = true) (oy : y.cells.all D.one = true)
    (hx : RelD w N x vx) (hy : RelD w N y vy) : ∃ u, (Instr.build t #[(0, vx), (1, vy)]).run P w = .ok u w ∧ RelD w N (.s (x.cells ++ y.cells)) u := by
  obtain ⟨sx, rx⟩ := cells_rel hx ox
  obtain ⟨sy, ry⟩ := cells_rel hy oy
  rw [hm] at sx
  rw [hn] at sy
  refine ⟨.agg (vx.cells ++ vy.cells), ?_, .s _ _ (by simp [sx, sy, hm, hn]) (append_rel (by omega) (fun k z u hz hu => (rx k z u hz hu).1) (fun k z u hz hu => (ry k z u hz hu).1))⟩
  unfold bdOf at ht
  split at ht
  · rename_i i fs hi hu
    split at ht
    · rename_i f0 f1 hfs
      split at ht
      · rename_i i0 i1 hi0 hi1
        split at ht
        · rename_i hc
          obtain ⟨c1, c2, c3⟩ := hc
          simp only [Option.some.injEq, Prod.mk.injEq] at ht
          obtain ⟨rfl, rfl⟩ := ht
          obtain rfl : fs = #[f0, f1] := by rw [← Array.toArray_toList (xs := fs), hfs]
          cases hz : i.zero with
          | none => rw [hz] at c3; cases c3
          | some z =>
            rw [hz] at c3
            simp only [Option.map_some, Option.some.injEq] at c3
            have hfill := fill_two (place := fun k => ([(f0.offset, i0.size), (f1.offset, i1.size)] : List (Nat × Nat))[k]?) sx sy (by simp [c1]) (by simp [c2]) c3
            simp [Instr.build, zeroValue, typeInfo, hi, hz, run_underlying hu, sizeOf, hi0, hi1, hfill]
        · cases ht
      · cases ht
    · cases ht
  · rename_i i e hi hu
    split at ht
    · rename_i i0 hi0
      split at ht
      · rename_i c3
        simp only [Option.some.injEq, Prod.mk.injEq] at ht
        obtain ⟨rfl, rfl⟩ := ht
        cases hz : i.zero with
        | none => rw [hz] at c3; cases c3
        | some z =>
          rw [hz] at c3
          simp only [Option.map_some, Option.some.injEq] at c3
          have hfill := fill_two (place := fun k => some (k * i0.size, i0.size)) sx sy (by simp) (by simp) c3
          simp [Instr.build, zeroValue, typeInfo, hi, hz, run_underlying hu, sizeOf, hi0, hfill]
      · cases ht
    · cases ht
  · cases ht

theorem caps_inv {E : Env} {w : World} {μ : Map} {σ : St} {a : Act} (hev : ∀ x, RelV E w μ σ (σ.eval x) (a.eval x)) : ∀ (caps : List Operand) (k : List Nat → Prop), capsK (caps.map σ.eval) k →
    ∃ bs, k bs ∧ bs.length = caps.length ∧ ∀ (i b : Nat), bs[i]? = some b → ∃ u, (caps.map a.eval)[i]? = some u ∧ RelP μ σ b 0 u := by
  intro caps
  induction caps with
  | nil => intro k h; exact ⟨[], h, rfl, fun i b hb => by simp at hb⟩
  | cons c caps ih =>
    intro k h
    have hc := hev c
    simp only [List.map_cons] at h
    generalize σ.eval c = x at h hc
    unfold capsK at h
    split at h
    · rename_i heq
      cases heq
    · rename_i b rest heq
      simp only [List.cons.injEq] at heq
      obtain ⟨rfl, rfl⟩ := heq
      obtain ⟨bs, hk, hl, hg⟩ := ih _ h
      refine ⟨b :: bs, hk, by simp [hl], fun i b' hb' => ?_⟩
      cases i with
      | zero => simp at hb'; subst hb'; exact ⟨_, rfl, hc⟩
      | succ i => simp at hb'; simpa using hg i b' hb'
    · exact h.elim

theorem opt_inv {E : Env} {w : World} {μ : Map} {σ : St} {a : Act} (hev : ∀ x, RelV E w μ σ (σ.eval x) (a.eval x)) {x : Option Operand} {k : Option Int → Prop} (h : optI σ x k) :
    ∃ r, k r ∧ (r = none ∧ x.map a.eval = none ∨ ∃ q n, r = some n ∧ x.map a.eval = some (.int q n)) := by
  cases x with
  | none => exact ⟨none, h, .inl ⟨rfl, rfl⟩⟩
  | some x =>
    obtain ⟨q, n, he, hk⟩ := iK_inv h
    have := hev x
    rw [he] at this
    exact ⟨some n, hk, .inr ⟨q, n, rfl, by simp [rel_c this]⟩⟩

theorem evE_sound {o : Oper} {σ : St} {C : V → Prop} (h : evE P o.op σ C) {E : Env} {μ : Map} {a : Act} {w : World} (hr : Rel E σ μ a w) :
    ∃ x u, C x ∧ (execOp a.eval o).run P w = .ok (.value u) w ∧ RelV E w μ σ x u ∧ ∀ c, o.op ≠ .defer c := by
  have hev := hr.eval
  obtain ⟨dst, op, type, pos, after, guard⟩ := o
  simp only at h ⊢
  unfold evE at h
  split at h
  · rename_i x; exact ⟨_, _, h, rfl, hev x, by simp⟩
  · rename_i x; exact ⟨_, _, h, rfl, hev x, by simp⟩
  · rename_i c x y
    obtain ⟨t, ht, h1, h2⟩ := bK_inv h
    have hc := hev c
    rw [ht] at hc
    have hc := rel_c hc
    cases t with
    | true => exact ⟨_, _, h1 rfl, by simp [execOp, hc, asBool], hev x, by simp⟩
    | false => exact ⟨_, _, h2 rfl, by simp [execOp, hc, asBool], hev y, by simp⟩
  · rename_i t x
    obtain ⟨y, u, hC, h1, h2⟩ := ldK_sound h hr (hev x)
    exact ⟨y, u, hC, by simp [execOp, h1], h2, by simp⟩
  · rename_i op t x y yt
    obtain ⟨z, u, hC, h1, h2⟩ := binE_sound h (hev x) (hev y)
    exact ⟨z, u, hC, by simp only [execOp]; rw [Sem.run_bind, h1]; rfl, h2, by simp⟩
  · rename_i op t x
    split at h
    · obtain ⟨b, hb, hC⟩ := bK_inv h
      have hx := hev x
      rw [hb] at hx
      exact ⟨_, .bool !b, hC, by simp [execOp, rel_c hx, Op.unary], .c _, by simp⟩
    · exact h.elim
  · rename_i t x f
    obtain ⟨y, u, hC, h1, h2⟩ := faK_sound h (hev x)
    exact ⟨y, u, hC, by simp [execOp, h1], h2, by simp⟩
  · rename_i t x i
    obtain ⟨q, n, hi, h⟩ := iK_inv h
    have hx := hev i
    rw [hi] at hx
    obtain ⟨y, u, hC, h1, h2⟩ := iaK_sound (k := q) h (hev x) hr.fx
    exact ⟨y, u, hC, by simp [execOp, rel_c hx, h1], h2, by simp⟩
  · rename_i t x i
    obtain ⟨q, n, hi, h⟩ := iK_inv h
    have hx := hev i
    rw [hi] at hx
    obtain ⟨d, hd, h⟩ := dK_inv h (hev x)
    split at h
    · rename_i xs
      obtain ⟨h0, m, e, har, hlt, g, s, hty, rfl, rfl, y, hy, hC⟩ := h
      generalize hax : a.eval x = vx at hd
      cases hd with
      | s _ us hl hru =>
        have hu : n.toNat < us.size := by rw [hl]; exact (List.getElem?_eq_some_iff.1 hy).1
        refine ⟨.d y, us[n.toNat], hC, ?_, hru _ y _ hy (by simp [hu]), by simp⟩
        unfold arOf at har
        split at har
        · rename_i m' e' hu'
          simp only [Option.some.injEq, Prod.mk.injEq] at har
          obtain ⟨rfl, rfl⟩ := har
          have hag := run_isAgg_ty (P := P) hty w
          simp [execOp, rel_c hx, hax, Instr.index, asIntOf, run_underlying hu', h0, hlt, run_sizeOf_ty hty, part, hag, hu]
        · cases har
    · exact h.elim
  · rename_i x n
    obtain ⟨d, hd, h⟩ := dK_inv h (hev x)
    split at h
    · rename_i xs
      obtain ⟨y, hy, hC⟩ := nthK_inv h
      generalize hax : a.eval x = vx at hd
      cases hd with
      | t _ us hl hru =>
        have hu : n < us.size := by rw [hl]; exact (List.getElem?_eq_some_iff.1 hy).1
        exact ⟨.d y, us[n], hC, by simp [execOp, hax, Instr.extract, hu], hru _ y _ hy (by simp [hu]), by simp⟩
    · exact h.elim
  · rename_i t x
    obtain ⟨d, hd, h⟩ := dK_inv h (hev x)
    split at h
    · obtain ⟨hn, hC⟩ := h
      refine ⟨_, .iface t _, hC, ?_, .c _, by simp⟩
      unfold ncI at hn
      split at hn
      · cases hn
      · rename_i dd hne hu
        simp only [execOp, Instr.makeInterface, Sem.run_bind, run_underlying hu, Result.andThen_ok, relD_c hd]
        rfl
      · cases hn
    · exact h.elim
  · rename_i fn first caps
    obtain ⟨hf, h⟩ := h
    obtain ⟨bs, hC, hl, hg⟩ := caps_inv (a := a) hev caps.toList _ h
    have hf' : first = #[] := by rw [← Array.toArray_toList (xs := first), hf]
    subst hf'
    refine ⟨_, .func fn #[] (caps.map a.eval), hC, by simp [execOp, Instr.makeFunc], ⟨_, rfl, by simp [hl], fun k b hb => ?_⟩, by simp⟩
    obtain ⟨u, h1, h2⟩ := hg k b hb
    exact ⟨u, by rw [← Array.getElem?_toList]; simpa using h1, h2⟩
  · rename_i t x lo hi mx
    split at h
    · obtain ⟨lo', h, hlo⟩ := opt_inv (a := a) hev h
      obtain ⟨hi', h, hhi⟩ := opt_inv (a := a) hev h
      obtain ⟨y, u, hC, h1, h2⟩ := sliK_sound hlo hhi h (hev x)
      exact ⟨y, u, hC, by simp [execOp, h1], h2, by simp⟩
    · rename_i m
      obtain ⟨lo', h, hlo⟩ := opt_inv (a := a) hev h
      obtain ⟨hi', h, hhi⟩ := opt_inv (a := a) hev h
      obtain ⟨q, n, hm, h⟩ := iK_inv h
      have hm' := hev m
      rw [hm] at hm'
      obtain ⟨y, u, hC, h1, h2⟩ := sl3K_sound (km := q) hlo hhi h (hev x)
      exact ⟨y, u, hC, by simp [execOp, rel_c hm', h1], h2, by simp⟩
  · rename_i t ps
    obtain ⟨ps⟩ := ps
    unfold bldE at h
    split at h
    · rename_i i x j y heq
      simp only at heq
      subst heq
      obtain ⟨rfl, rfl, h⟩ := h
      obtain ⟨dx, hdx, h⟩ := dK_inv h (hev x)
      obtain ⟨dy, hdy, h⟩ := dK_inv h (hev y)
      obtain ⟨⟨m, n, hbd, hm, hn, ox, oy⟩, hC⟩ := h
      obtain ⟨u, h1, h2⟩ := build_sound hbd hm hn ox oy hdx hdy
      exact ⟨_, u, hC, by simp [execOp, h1], h2, by simp⟩
    · exact h.elim
  · rename_i c
    obtain ⟨callee, ⟨args⟩, ⟨ts⟩⟩ := c
    simp only at h
    split at h
    · rename_i b
      unfold buE at h
      split at h
      · split at h
        · rename_i x t
          obtain ⟨e, he, h⟩ := h
          have hx := hev x
          unfold lenK at h
          split at h
          · rename_i heq
            rw [heq] at hx
            obtain hx : a.eval x = .slice none 0 0 := hx
            exact ⟨_, .int .i64 0, h, by simp [execOp, resolve, hx, invoke, builtin, Builtin.len_, run_und_sl he, goInt], .c _, by simp⟩
          · rename_i xs heq
            rw [heq] at hx
            obtain ⟨A, cap, hv, _, _⟩ := RelD.l_inv hx
            exact ⟨_, .int .i64 xs.length, h, by simp [execOp, resolve, hv, invoke, builtin, Builtin.len_, run_und_sl he, goInt], .c _, by simp⟩
          · rename_i r off n heq
            obtain ⟨row, hrow, h⟩ := rwK_inv h
            rw [heq] at hx
            obtain ⟨_, hx⟩ := hx
            obtain ⟨_, hx⟩ := hx row hrow
            refine ⟨_, .int .i64 n, h, ?_, .c _, by simp⟩
            rcases hx with ⟨_, hv, rfl⟩ | ⟨b, sh, A, cap, _, hv, _, _, _⟩
            · simp [execOp, resolve, hv, invoke, builtin, Builtin.len_, run_und_sl he, goInt]
            · simp [execOp, resolve, hv, invoke, builtin, Builtin.len_, run_und_sl he, goInt]
          · exact h.elim
        · exact h.elim
      · split at h
        · rename_i x y
          obtain ⟨k, m, hx, h⟩ := iK_inv h
          obtain ⟨k', n, hy, h⟩ := iK_inv h
          obtain ⟨rfl, hC⟩ := h
          have hx' := hev x
          have hy' := hev y
          rw [hx] at hx'
          rw [hy] at hy'
          exact ⟨_, .int k (if n > m then n else m), hC, by simp [execOp, resolve, rel_c hx', rel_c hy', invoke, builtin, Builtin.max_, Builtin.max2], .c _, by simp⟩
        · exact h.elim
      · split at h
        · rename_i x y
          obtain ⟨k, m, hx, h⟩ := iK_inv h
          obtain ⟨k', n, hy, h⟩ := iK_inv h
          obtain ⟨rfl, hC⟩ := h
          have hx' := hev x
          have hy' := hev y
          rw [hx] at hx'
          rw [hy] at hy'
          exact ⟨_, .int k (if n < m then n else m), hC, by simp [execOp, resolve, rel_c hx', rel_c hy', invoke, builtin, Builtin.min_, Builtin.min2], .c _, by simp⟩
        · exact h.elim
      · exact h.elim
    · exact h.elim
  · exact h.elim
end Go.Aw

namespace Go.Aw
open Go.RowKit
variable {P : Program}

theorem marks_keep {w0 w w' : World} {a : Act} (h : Marks w0 w a) (hs : ∀ (k : Nat) (o : Obj), w.heap[k]? = some o → o.isCells = false → w'.heap[k]? = some o) : Marks w0 w' a := by
  obtain ⟨ds, h1, h2, h3⟩ := h
  exact ⟨ds, h1, h2, fun r hr => ⟨(h3 r hr).1, hs r _ (h3 r hr).2 rfl⟩⟩

theorem cells_relV {E : Env} {w : World} {μ : Map} {σ : St} {x : V} {v : Value} (h : RelV E w μ σ x v) (h1 : x.cells.all V.one = true) :
    v.cells.size = x.cells.length ∧ (∀ (k : Nat) (y : V) (u : Value), x.cells[k]? = some y → v.cells[k]? = some u → RelV E w μ σ y u ∧ u.oneCell' = true) := by
  have one : ∀ {x : V} {v : Value}, RelV E w μ σ x v → x.one = true → v.oneCell' = true := by
    intro x v h h1
    cases x with
    | d x => exact RelD.one_ h h1
    | j => cases h1
    | nl => obtain rfl : v = _ := h; rfl
    | o r off len => obtain ⟨⟨_, A, n, c, rfl⟩, _⟩ := h; rfl
    | p b sub => obtain ⟨_, rfl⟩ := h; rfl
    | e r i s => obtain ⟨⟨_, ad, rfl⟩, _⟩ := h; rfl
    | fp fn ps => obtain ⟨us, rfl, _⟩ := h; rfl
  by_cases hs : ∃ xs, x = .d (.s xs)
  · obtain ⟨xs, rfl⟩ := hs
    have h1' : (D.s xs).cells.all D.one = true := by
      rw [List.all_eq_true] at h1 ⊢
      intro y hy
      exact h1 (.d y) (by simp only [V.cells]; exact List.mem_map.2 ⟨y, hy, rfl⟩)
    obtain ⟨g1, g2⟩ := cells_rel h h1'
    refine ⟨by rw [g1]; simp [V.cells, D.cells], fun k y u hy hu => ?_⟩
    simp only [V.cells, List.getElem?_map] at hy
    cases hx : xs[k]? with
    | none => simp [hx] at hy
    | some z =>
      simp [hx] at hy
      subst hy
      exact g2 k z u hx hu
  · have hc : x.cells = [x] := by
      cases x with
      | d x => cases x <;> first | rfl | exact absurd ⟨_, rfl⟩ hs
      | _ => rfl
    rw [hc] at h1 ⊢
    have h2 := one h (by simpa using h1)
    rw [one_cells h2]
    refine ⟨rfl, fun k y u hy hu => ?_⟩
    cases k with
    | zero => simp at hy hu; subst hy; subst hu; exact ⟨h, h2⟩
    | succ k => simp at hy

/-- A new box. -/
def Map.box (μ : Map) (n b : Nat) : Map := { μ with b := fun i => if i = n then b else μ.b i }

theorem Rel.newBox {E : Env} {σ : St} {μ : Map} {a : Act} {w : World} (h : Rel E σ μ a w) {C : Array Value} {et : TypeId} {x : V} (hC : C.size = x.cells.length)
    (hx : ∀ (k : Nat) (y : V) (u : Value), x.cells[k]? = some y → C[k]? = some u → RelV E w μ σ y u) :
    Rel E { σ with bx := σ.bx ++ [x] } (μ.box σ.bx.length w.heap.size) a (w.alloc (.cells C et)) ∧ RelV E (w.alloc (.cells C et)) (μ.box σ.bx.length w.heap.size) { σ with bx := σ.bx ++ [x] } (.p σ.bx.length 0) (.pointer (some ⟨w.heap.size, 0, none⟩)) := by
  have hown : ∀ b, Own (μ.box σ.bx.length w.heap.size) { σ with bx := σ.bx ++ [x] } b → b = w.heap.size ∨ Own μ σ b := by
    rintro b (⟨i, hi, rfl⟩ | h')
    · simp at hi
      by_cases hn : i = σ.bx.length
      · exact .inl (by simp [Map.box, hn])
      · exact .inr (.inl ⟨i, by omega, by simp [Map.box, hn]⟩)
    · exact .inr (.inr h')
  have heap : ∀ k, k < w.heap.size → (w.alloc (.cells C et)).heap[k]? = w.heap[k]? := fun k hk => Below.heap_alloc w _ k hk
  have hnew : (w.alloc (.cells C et)).heap[w.heap.size]? = some (.cells C et (0, 0)) := World.alloc_heap_new w _
  have t : Tr E (fun _ => False) w μ σ (w.alloc (.cells C et)) (μ.box σ.bx.length w.heap.size) { σ with bx := σ.bx ++ [x] } := by
    refine ⟨fun b hb => ⟨⟨hb.1, by have := hb.2.1; simp; omega, fun ho => ?_⟩, .inl (heap b hb.2.1)⟩, by simp, fun i hi => by simp [Map.box]; omega, Nat.le_refl _, fun r row' _ _ hr => ⟨row', hr, rfl, Nat.le_refl _, rfl⟩, ?_⟩
    · rcases hown b ho with h' | h'
      · have := hb.2.1; omega
      · exact hb.2.2 h'
    · rintro b n ⟨D, et', fr, h1, h2⟩
      exact ⟨D, et', fr, (heap b (Array.getElem?_eq_some_iff.1 h1).1).trans h1, h2⟩
  have bl : ∀ i, i < σ.bx.length → μ.b i < w.heap.size := fun i hi => h.mem.own_lt (.inl ⟨i, hi, rfl⟩)
  have rlt : ∀ r row b sh, σ.rw[r]? = some (some row) → μ.r r = some (b, sh) → b < w.heap.size := fun r row b sh hr hm => h.mem.own_lt (.inr ⟨r, row, sh, hr, hm⟩)
  refine ⟨⟨h.stp.trans (Stp.alloc (Ow := fun _ => False) w _) (fun _ h => h.elim), fun b hb => ?_, ⟨fun i k hi hk he => ?_, fun i r row sh hi hr => ?_, h.mem.rr, fun i y hy => ?_, fun r row hr => ?_⟩, ⟨h.tm.1, fun k y u hy hu => (h.tm.2 k y u hy hu).tr t (no_men y)⟩, ?_, ⟨h.gh.1, fun k y u hy hu => (h.gh.2 k y u hy hu).tr t (no_men y)⟩, h.pin.keep (fun k o hk _ => (heap k (Array.getElem?_eq_some_iff.1 hk).1).trans hk), fun v y hy => (h.fx v y hy).tr t (no_men y)⟩, by simp, by simp [Map.box]⟩
  · rcases hown b hb with rfl | h'
    · exact .inl h.stp.size
    · exact h.own b h'
  · simp at hi hk
    by_cases h1 : i = σ.bx.length <;> by_cases h2 : k = σ.bx.length
    · omega
    · have := bl k (by omega)
      simp [Map.box, h1, h2] at he
      omega
    · have := bl i (by omega)
      simp [Map.box, h1, h2] at he
      omega
    · simp [Map.box, h1, h2] at he
      exact h.mem.bb i k (by omega) (by omega) he
  · simp at hi
    by_cases h1 : i = σ.bx.length
    · intro he
      have := rlt r row _ sh hr he
      simp [Map.box, h1] at this
    · simp only [Map.box, h1, if_false]
      exact h.mem.br i r row sh (by omega) hr
  · rw [List.getElem?_append] at hy
    split at hy
    · rename_i hi
      have hb := h.mem.box i y hy
      have e : (μ.box σ.bx.length w.heap.size).b i = μ.b i := by simp [Map.box]; omega
      rw [e]
      exact hb.tr t (fun z _ => no_men z) (heap _ hb.lt)
    · rename_i hi
      have hi' : i = σ.bx.length := by
        have := (List.getElem?_eq_some_iff.1 hy).1
        simp at this
        omega
      subst hi'
      simp at hy
      subst hy
      exact ⟨C, et, by rw [show (μ.box σ.bx.length w.heap.size).b σ.bx.length = w.heap.size by simp [Map.box]]; exact hnew, hC, fun k z u hz hu => (hx k z u hz hu).tr t (no_men z)⟩
  · have := h.mem.row r row hr
    refine this.tr t (fun b sh e => heap b (rlt r row b sh hr e))
  · exact marks_keep h.marks (fun k o hk _ => (heap k (Array.getElem?_eq_some_iff.1 hk).1).trans hk)
end Go.Aw

namespace Go.Aw
open Go.RowKit
variable {P : Program}

theorem Rel.step {E : Env} {X : Nat → Prop} {σ σ' : St} {μ μ' : Map} {a : Act} {w w' : World} (h : Rel E σ μ a w) (hs : Stp (Own μ σ) w w') (hown : ∀ b, Own μ' σ' b → Own μ σ b ∨ w.heap.size ≤ b)
    (hmem : MemOK E w' μ' σ') (ht : Tr E X w μ σ w' μ' σ') (hl : σ'.tm.length = σ.tm.length) (htm : ∀ (k : Nat) (x : V), σ'.tm[k]? = some x → x = .j ∨ (σ.tm[k]? = some x ∧ ¬ x.men X))
    (hg : σ'.gh.length = σ.gh.length ∧ ∀ (k : Nat) (x : V), σ'.gh[k]? = some x → x = .j ∨ (σ.gh[k]? = some x ∧ ¬ x.men X) := by exact ⟨rfl, fun k x hx => .inr ⟨hx, no_men x⟩⟩)
    (hf : ∀ (v : Value) (x : V), (v, x) ∈ σ'.fx → x = .j ∨ ((v, x) ∈ σ.fx ∧ ¬ x.men X) := by exact fun v x hx => .inr ⟨hx, no_men x⟩) : Rel E σ' μ' a w' := by
  have hkeep : ∀ (k : Nat) (o : Obj), w.heap[k]? = some o → o.isCells = false → w'.heap[k]? = some o := fun k o hk ho => by
    refine (hs.block k (Array.getElem?_eq_some_iff.1 hk).1 (fun hb => ?_)).trans hk
    obtain ⟨C, et, fr, h1⟩ := h.mem.own_cells hb
    rw [h1] at hk
    cases hk
    cases ho
  refine ⟨h.stp.trans hs (fun b hb => (h.own b hb).symm), fun b hb => ?_, hmem, ⟨by rw [hl]; exact h.tm.1, fun k x u hx hu => ?_⟩, marks_keep h.marks hkeep, ⟨by rw [hg.1]; exact h.gh.1, fun k x u hx hu => ?_⟩, h.pin.keep hkeep, fun v x hx => ?_⟩
  · rcases hown b hb with h' | h'
    · exact h.own b h'
    · exact .inl (Nat.le_trans h.stp.size h')
  · rcases htm k x hx with rfl | ⟨hx', hn⟩
    · trivial
    · exact (h.tm.2 k x u hx' hu).tr ht hn
  · rcases hg.2 k x hx with rfl | ⟨hx', hn⟩
    · trivial
    · exact (h.gh.2 k x u hx' hu).tr ht hn
  · rcases hf v x hx with rfl | ⟨hx', hn⟩
    · trivial
    · exact (h.fx v x hx').tr ht hn

def Map.row (μ : Map) (n : Nat) (p : Option (Nat × Nat)) : Map := { μ with r := fun i => if i = n then p else μ.r i }

theorem Rel.newRow {E : Env} {σ : St} {μ : Map} {a : Act} {w : World} (h : Rel E σ μ a w) {C : Array Value} {et : TypeId} {row : Row} (h0 : 0 < row.sz) (hsz : ∀ x ∈ row.xs, x.cells.length = row.sz) (hC : row.xs.length * row.sz ≤ C.size)
    (hx : ∀ (i k : Nat) (x y : D) (u : Value), row.xs[i]? = some x → x.cells[k]? = some y → C[i * row.sz + k]? = some u → RelD w (Fz E w μ σ) y u) :
    Rel E { σ with rw := σ.rw ++ [some row] } (μ.row σ.rw.length (some (w.heap.size, 0))) a (w.alloc (.cells C et)) ∧
    ∀ cap, row.xs.length ≤ cap → cap * row.sz ≤ C.size → RelV E (w.alloc (.cells C et)) (μ.row σ.rw.length (some (w.heap.size, 0))) { σ with rw := σ.rw ++ [some row] } (.o σ.rw.length 0 row.xs.length) (.slice (some ⟨w.heap.size, 0, none⟩) row.xs.length cap) := by
  have hold : ∀ r row', { σ with rw := σ.rw ++ [some row] }.rw[r]? = some (some row') → (r < σ.rw.length ∧ σ.rw[r]? = some (some row')) ∨ (r = σ.rw.length ∧ row' = row) := fun r row' hr => by
    simp only [List.getElem?_append] at hr
    split at hr
    · rename_i hlt; exact .inl ⟨hlt, hr⟩
    · rename_i hlt
      have : r = σ.rw.length := by
        have := (List.getElem?_eq_some_iff.1 hr).1
        simp at this; omega
      subst this
      simp at hr
      exact .inr ⟨rfl, hr.symm⟩
  have hown : ∀ b, Own (μ.row σ.rw.length (some (w.heap.size, 0))) { σ with rw := σ.rw ++ [some row] } b → Own μ σ b ∨ b = w.heap.size := by
    rintro b (⟨i, hi, rfl⟩ | ⟨r, row', sh, hr, hm⟩)
    · exact .inl (.inl ⟨i, hi, rfl⟩)
    · rcases hold r row' hr with ⟨hlt, hr'⟩ | ⟨rfl, rfl⟩
      · exact .inl (.inr ⟨r, row', sh, hr', by simpa [Map.row, Nat.ne_of_lt hlt] using hm⟩)
      · simp [Map.row] at hm; exact .inr hm.1.symm
  have heap : ∀ k, k < w.heap.size → (w.alloc (.cells C et)).heap[k]? = w.heap[k]? := fun k hk => Below.heap_alloc w _ k hk
  have hnew : (w.alloc (.cells C et)).heap[w.heap.size]? = some (.cells C et (0, 0)) := World.alloc_heap_new w _
  have t : Tr E (fun _ => False) w μ σ (w.alloc (.cells C et)) (μ.row σ.rw.length (some (w.heap.size, 0))) { σ with rw := σ.rw ++ [some row] } := by
    refine ⟨fun b hb => ⟨⟨hb.1, by have := hb.2.1; simp; omega, fun ho => ?_⟩, .inl (heap b hb.2.1)⟩, Nat.le_refl _, fun i hi => rfl, by simp, fun r row' hlt _ hr => ?_, ?_⟩
    · rcases hown b ho with h' | h'
      · exact hb.2.2 h'
      · have := hb.2.1; omega
    · rcases hold r row' hr with ⟨_, hr'⟩ | ⟨rfl, _⟩
      · exact ⟨row', hr', rfl, Nat.le_refl _, by simp [Map.row, Nat.ne_of_lt hlt]⟩
      · omega
    · rintro b n ⟨D, et', fr, h1, h2⟩
      exact ⟨D, et', fr, (heap b (Array.getElem?_eq_some_iff.1 h1).1).trans h1, h2⟩
  have blt : ∀ i, i < σ.bx.length → μ.b i < w.heap.size := fun i hi => h.mem.own_lt (.inl ⟨i, hi, rfl⟩)
  have rlt : ∀ r row b sh, σ.rw[r]? = some (some row) → μ.r r = some (b, sh) → b < w.heap.size := fun r row b sh hr hm => h.mem.own_lt (.inr ⟨r, row, sh, hr, hm⟩)
  have hmr : ∀ r, r < σ.rw.length → (μ.row σ.rw.length (some (w.heap.size, 0))).r r = μ.r r := fun r hlt => by simp [Map.row, Nat.ne_of_lt hlt]
  have hmn : (μ.row σ.rw.length (some (w.heap.size, 0))).r σ.rw.length = some (w.heap.size, 0) := by simp [Map.row]
  constructor
  · refine h.step (Stp.alloc w _) (fun b hb => (hown b hb).imp id (fun e => by omega)) ⟨h.mem.bb, fun i r row' sh hi hr => ?_, fun r r' row1 row2 b sh sh' hr hr' h1 h2 => ?_, fun i y hy => (h.mem.box i y hy).tr t (fun z _ => no_men z) (heap _ (h.mem.box i y hy).lt), fun r row' hr => ?_⟩ t rfl (fun k x hx => .inr ⟨hx, no_men x⟩)
    · rcases hold r row' hr with ⟨hlt, hr'⟩ | ⟨rfl, rfl⟩
      · rw [hmr r hlt]; exact h.mem.br i r row' sh hi hr'
      · rw [hmn]
        intro e
        have := blt i hi
        simp only [Option.some.injEq, Prod.mk.injEq] at e
        have e1 : (μ.row σ.rw.length (some (w.heap.size, 0))).b i = μ.b i := rfl
        omega
    · rcases hold r row1 hr with ⟨hlt, hr1⟩ | ⟨rfl, rfl⟩ <;> rcases hold r' row2 hr' with ⟨hlt', hr2⟩ | ⟨rfl, rfl⟩
      · rw [hmr _ hlt] at h1
        rw [hmr _ hlt'] at h2
        exact h.mem.rr r r' row1 row2 b sh sh' hr1 hr2 h1 h2
      · rw [hmr _ hlt] at h1
        rw [hmn] at h2
        have := rlt _ _ _ _ hr1 h1
        simp at h2; omega
      · rw [hmr _ hlt'] at h2
        rw [hmn] at h1
        have := rlt _ _ _ _ hr2 h2
        simp at h1; omega
      · rfl
    · rcases hold r row' hr with ⟨hlt, hr'⟩ | ⟨rfl, rfl⟩
      · rw [hmr r hlt]
        exact (h.mem.row r row' hr').tr t (fun b sh e => heap b (rlt r row' b sh hr' e))
      · rw [hmn]
        exact ⟨h0, hsz, C, et, hnew, by omega, fun i k x y u hx' hy hu => (hx i k x y u hx' hy (by simpa using hu)).mono t.fz⟩
  · intro cap hcap hroom
    refine ⟨⟨by simp, _, _, _, rfl⟩, fun row' hr => ?_⟩
    rcases hold _ row' hr with ⟨hlt, _⟩ | ⟨_, rfl⟩
    · omega
    · exact ⟨by omega, .inr ⟨w.heap.size, 0, _, cap, hmn, rfl, hcap, fun _ => by simp, C, et, _, hnew, by simpa using hroom⟩⟩

/-- A row that has no block yet. -/
theorem Rel.newNil {E : Env} {σ : St} {μ : Map} {a : Act} {w : World} (h : Rel E σ μ a w) (sz : Nat) :
    Rel E { σ with rw := σ.rw ++ [some (Row.mk sz [])] } (μ.row σ.rw.length none) a w ∧ RelV E w (μ.row σ.rw.length none) { σ with rw := σ.rw ++ [some (Row.mk sz [])] } (.o σ.rw.length 0 0) (.slice none 0 0) ∧
      ∀ b, Fz E w μ σ b → Fz E w (μ.row σ.rw.length none) { σ with rw := σ.rw ++ [some (Row.mk sz [])] } b := by
  have hold : ∀ r row', { σ with rw := σ.rw ++ [some (Row.mk sz [])] }.rw[r]? = some (some row') → (r < σ.rw.length ∧ σ.rw[r]? = some (some row')) ∨ (r = σ.rw.length ∧ row' = (Row.mk sz [])) := fun r row' hr => by
    simp only [List.getElem?_append] at hr
    split at hr
    · rename_i hlt; exact .inl ⟨hlt, hr⟩
    · rename_i hlt
      have : r = σ.rw.length := by
        have := (List.getElem?_eq_some_iff.1 hr).1
        simp at this; omega
      subst this
      simp at hr
      exact .inr ⟨rfl, hr.symm⟩
  have hmr : ∀ r, r < σ.rw.length → (μ.row σ.rw.length none).r r = μ.r r := fun r hlt => by simp [Map.row, Nat.ne_of_lt hlt]
  have hmn : (μ.row σ.rw.length none).r σ.rw.length = none := by simp [Map.row]
  have hown : ∀ b, Own (μ.row σ.rw.length none) { σ with rw := σ.rw ++ [some (Row.mk sz [])] } b → Own μ σ b := by
    rintro b (⟨i, hi, rfl⟩ | ⟨r, row', sh, hr, hm⟩)
    · exact .inl ⟨i, hi, rfl⟩
    · rcases hold r row' hr with ⟨hlt, hr'⟩ | ⟨rfl, rfl⟩
      · exact .inr ⟨r, row', sh, hr', by rw [← hmr r hlt]; exact hm⟩
      · rw [hmn] at hm; cases hm
  have t : Tr E (fun _ => False) w μ σ w (μ.row σ.rw.length none) { σ with rw := σ.rw ++ [some (Row.mk sz [])] } := by
    refine ⟨fun b hb => ⟨⟨hb.1, hb.2.1, fun ho => hb.2.2 (hown b ho)⟩, .inl rfl⟩, Nat.le_refl _, fun i hi => rfl, by simp, fun r row' hlt _ hr => ?_, fun _ _ h => h⟩
    rcases hold r row' hr with ⟨_, hr'⟩ | ⟨rfl, _⟩
    · exact ⟨row', hr', rfl, Nat.le_refl _, hmr r hlt⟩
    · omega
  constructor
  · refine h.step (Stp.refl _ w) (fun b hb => .inl (hown b hb)) ⟨h.mem.bb, fun i r row' sh hi hr => ?_, fun r r' row1 row2 b sh sh' hr hr' h1 h2 => ?_, fun i y hy => (h.mem.box i y hy).tr t (fun z _ => no_men z) rfl, fun r row' hr => ?_⟩ t rfl (fun k x hx => .inr ⟨hx, no_men x⟩)
    · rcases hold r row' hr with ⟨hlt, hr'⟩ | ⟨rfl, rfl⟩
      · rw [hmr r hlt]; exact h.mem.br i r row' sh hi hr'
      · rw [hmn]; simp
    · rcases hold r row1 hr with ⟨hlt, hr1⟩ | ⟨rfl, rfl⟩ <;> rcases hold r' row2 hr' with ⟨hlt', hr2⟩ | ⟨rfl, rfl⟩
      · rw [hmr _ hlt] at h1
        rw [hmr _ hlt'] at h2
        exact h.mem.rr r r' row1 row2 b sh sh' hr1 hr2 h1 h2
      · rw [hmn] at h2; cases h2
      · rw [hmn] at h1; cases h1
      · rfl
    · rcases hold r row' hr with ⟨hlt, hr'⟩ | ⟨rfl, rfl⟩
      · rw [hmr r hlt]
        exact (h.mem.row r row' hr').tr t (fun b sh e => rfl)
      · rw [hmn]; rfl
  · refine ⟨⟨⟨by simp, _, _, _, rfl⟩, fun row' hr => ?_⟩, fun b hb => (t.fz b hb).1⟩
    rcases hold _ row' hr with ⟨hlt, _⟩ | ⟨_, rfl⟩
    · omega
    · exact ⟨by simp, .inl ⟨hmn, rfl, rfl⟩⟩
end Go.Aw

namespace Go.Aw
open Go.RowKit
variable {P : Program}

theorem run_storeCells_at (b o : Nat) (et : TypeId) : ∀ (vs : List Value) (i : Nat) (w : World) (C : Array Value), w.heap[b]? = some (.cells C et (0, 0)) → o + i + vs.length ≤ C.size → (∀ v ∈ vs, v.oneCell' = true) →
    ∃ w' C', (storeCells ⟨b, o, none⟩ vs i).run P w = .ok () w' ∧ Stp (fun k => k = b) w w' ∧ w'.heap[b]? = some (.cells C' et (0, 0)) ∧ C'.size = C.size ∧
      ∀ k, C'[k]? = if o + i ≤ k ∧ k < o + i + vs.length then vs[k - (o + i)]? else C[k]? := by
  intro vs
  induction vs with
  | nil =>
    intro i w C hg _ _
    exact ⟨w, C, rfl, Stp.refl _ _, hg, rfl, fun k => by rw [if_neg (by simp only [List.length_nil]; omega)]⟩
  | cons v vs ih =>
    intro i w C hg hle h1
    simp only [List.length_cons] at hle
    have hcell : w.cell? (⟨b, o + i, none⟩ : Addr) = some C[o + i] := by
      simp [World.cell?, hg, show o + i < C.size by omega]
    have hfr : w.frozen? (⟨b, o + i, none⟩ : Addr) = false := by simp [World.frozen?, hg]
    have hst : (store ((⟨b, o, none⟩ : Addr).add i) v).run P w = .ok () (w.setCell ⟨b, o + i, none⟩ v) := by
      rw [addr_add, run_store P w _ v .plain (h1 v (by simp)), hcell]
      simp [hfr]
    have hg' : (w.setCell ⟨b, o + i, none⟩ v).heap[b]? = some (.cells (C.setIfInBounds (o + i) v) et (0, 0)) := by
      simp [World.setCell, Array.getElem?_modify, hg]
    obtain ⟨w', C', h2, h3, h4, h5, h6⟩ := ih (i + 1) _ _ hg' (by simp; omega) (fun u hu => h1 u (by simp [hu]))
    have hs : Stp (fun k => k = b) w (w.setCell ⟨b, o + i, none⟩ v) :=
      ⟨rfl, rfl, rfl, by simp [World.setCell], fun k _ hn => Below.heap_setCell w ⟨b, o + i, none⟩ v k hn⟩
    refine ⟨w', C', ?_, hs.trans h3 (fun x h => .inl h), h4, by rw [h5]; simp, fun k => ?_⟩
    · simp only [storeCells, Sem.run_bind, hst, Result.andThen_ok]
      exact h2
    · rw [h6]
      simp only [List.length_cons]
      by_cases hk : k = o + i
      · subst hk
        rw [if_neg (by omega), if_pos (by omega), Array.getElem?_setIfInBounds, if_pos rfl, if_pos (by omega)]
        simp
      · rw [Array.getElem?_setIfInBounds_ne (by omega)]
        by_cases hb : o + i ≤ k ∧ k < o + i + (vs.length + 1)
        · rw [if_pos hb, if_pos (by omega)]
          have : k - (o + i) = (k - (o + (i + 1))) + 1 := by omega
          rw [this, List.getElem?_cons_succ]
        · rw [if_neg hb, if_neg (by omega)]

theorem run_storeVar_at {t : TypeId} {g : Bool} {n : Nat} {v : Value} {b o : Nat} {et : TypeId} {w : World} {C : Array Value} (ht : tyOf P t = some (g, n)) (hn : v.cells.size = n) (h1 : ∀ (k : Nat) (u : Value), v.cells[k]? = some u → u.oneCell' = true)
    (hg : w.heap[b]? = some (.cells C et (0, 0))) (hle : o + n ≤ C.size) :
    ∃ w' C', (Instr.storeAt t (.pointer (some ⟨b, o, none⟩)) v).run P w = .ok () w' ∧ Stp (fun k => k = b) w w' ∧ w'.heap[b]? = some (.cells C' et (0, 0)) ∧ C'.size = C.size ∧
      ∀ k, C'[k]? = if o ≤ k ∧ k < o + n then v.cells[k - o]? else C[k]? := by
  obtain ⟨w', C', h2, h3, h4, h5, h6⟩ := run_storeCells_at (P := P) b o et v.cells.toList 0 w C hg (by simp; omega) (fun u hu => by
    obtain ⟨k, hk⟩ := List.getElem?_of_mem hu
    exact h1 k u (by rw [← Array.getElem?_toList]; exact hk))
  refine ⟨w', C', ?_, h3, h4, h5, fun k => ?_⟩
  · simp only [Instr.storeAt, Instr.sureAddr, storeVar, Sem.run_bind, Sem.run_pure, Result.andThen_ok, run_sizeOf_ty ht]
    rw [if_neg (by omega)]
    exact h2
  · rw [h6]
    simp only [Nat.add_zero, Array.length_toList, hn, Array.getElem?_toList]

theorem room_stp {w w' : World} {b : Nat} {et : TypeId} {C C' : Array Value} (hs : Stp (fun k => k = b) w w') (hg : w.heap[b]? = some (.cells C et (0, 0))) (hg' : w'.heap[b]? = some (.cells C' et (0, 0))) (hC : C'.size = C.size) :
    ∀ b' n, Room w b' n → Room w' b' n := by
  rintro b' n ⟨D, et', fr, h1, h2⟩
  by_cases e : b' = b
  · subst e
    rw [hg] at h1
    cases h1
    exact ⟨C', et, _, hg', by omega⟩
  · exact ⟨D, et', fr, (hs.block b' (Array.getElem?_eq_some_iff.1 h1).1 e).trans h1, h2⟩

theorem Rel.storeBox {E : Env} {σ : St} {μ : Map} {a : Act} {w : World} (h : Rel E σ μ a w) {b : Nat} {t : TypeId} {g : Bool} {n : Nat} {x : V} {v : Value} (hb : b < σ.bx.length) (ht : tyOf P t = some (g, n)) (hx : RelV E w μ σ x v) (h1 : x.cells.all V.one = true)
    (hn : x.cells.length = n) (ho : (σ.bx.getD b .j).cells.length = n) : ∃ w', (Instr.storeAt t (.pointer (some ⟨μ.b b, 0, none⟩)) v).run P w = .ok () w' ∧ Rel E { σ with bx := σ.bx.set b x } μ a w' := by
  have hbx : σ.bx[b]? = some (σ.bx.getD b .j) := by simp [hb]
  obtain ⟨C, et, hg, hCs, hC⟩ := h.mem.box b _ hbx
  obtain ⟨c1, c2⟩ := cells_relV hx h1
  obtain ⟨w', C', hrun, hs, hg', hCs', hC'⟩ := run_storeVar_at (P := P) (o := 0) ht (c1.trans hn) (fun k u hu => by
    have hk : k < x.cells.length := by rw [← c1]; exact (Array.getElem?_eq_some_iff.1 hu).1
    exact (c2 k _ u (List.getElem?_eq_getElem hk) hu).2) hg (by omega)
  refine ⟨w', hrun, ?_⟩
  have hown : ∀ b', Own μ { σ with bx := σ.bx.set b x } b' → Own μ σ b' := by
    rintro b' (⟨i, hi, rfl⟩ | h')
    · exact .inl ⟨i, by simpa using hi, rfl⟩
    · exact .inr h'
  have hob : Own μ σ (μ.b b) := .inl ⟨b, hb, rfl⟩
  have hlt : μ.b b < w.heap.size := h.mem.own_lt hob
  have t : Tr E (fun _ => False) w μ σ w' μ { σ with bx := σ.bx.set b x } := by
    refine ⟨fun b' hb' => ⟨⟨hb'.1, Nat.lt_of_lt_of_le hb'.2.1 hs.size, fun ho => hb'.2.2 (hown b' ho)⟩, .inl (hs.block b' hb'.2.1 (fun e => hb'.2.2 (e ▸ hob)))⟩, by simp, fun _ _ => rfl, Nat.le_refl _, fun r row' _ _ hr => ⟨row', hr, rfl, Nat.le_refl _, rfl⟩, room_stp hs hg hg' hCs'⟩
  refine h.step (hs.mono (fun k _ e => e ▸ hob)) (fun b' hb' => .inl (hown b' hb')) ⟨fun i k hi hk => h.mem.bb i k (by simpa using hi) (by simpa using hk), fun i r row sh hi => h.mem.br i r row sh (by simpa using hi), h.mem.rr, fun i y hy => ?_, fun r row hr => ?_⟩ t rfl (fun k y hy => .inr ⟨hy, no_men y⟩)
  · rw [List.getElem?_set] at hy
    split at hy
    · rename_i e
      subst e
      cases hy
      refine ⟨C', et, hg', by omega, fun k z u hz hu => ?_⟩
      have hk : k < n := by rw [← hn]; exact (List.getElem?_eq_some_iff.1 hz).1
      rw [hC', if_pos (by omega)] at hu
      exact (c2 k z u hz (by simpa using hu)).1.tr t (no_men z)
    · rename_i e
      have hi : i < σ.bx.length := (List.getElem?_eq_some_iff.1 hy).1
      refine (h.mem.box i y hy).tr t (fun z _ => no_men z) (hs.block _ (h.mem.box i y hy).lt (fun e' => e ?_))
      exact (h.mem.bb i b hi hb e').symm
  · refine (h.mem.row r row hr).tr t (fun b' sh e => hs.block b' ?_ (fun e' => ?_))
    · exact h.mem.own_lt (.inr ⟨r, row, sh, hr, e⟩)
    · subst e'
      exact h.mem.br b r row sh hb hr e

theorem Rel.storeRow {E : Env} {σ : St} {μ : Map} {a : Act} {w : World} (h : Rel E σ μ a w) {r i : Nat} {row : Row} {b sh : Nat} {t : TypeId} {g : Bool} {x : D} {v : Value} (hrow : σ.rw[r]? = some (some row)) (hm : μ.r r = some (b, sh)) (hi : i < row.xs.length)
    (ht : tyOf P t = some (g, row.sz)) (hx : RelD w (Fz E w μ σ) x v) (h1 : x.cells.all D.one = true) (hn : x.cells.length = row.sz) :
    ∃ w', (Instr.storeAt t (.pointer (some ⟨b, sh + i * row.sz, none⟩)) v).run P w = .ok () w' ∧ Rel E { σ with rw := σ.rw.set r (some ⟨row.sz, row.xs.set i x⟩) } μ a w' := by
  have hR := h.mem.row r row hrow
  rw [hm] at hR
  obtain ⟨h0, hsz, C, et, hg, hCs, hC⟩ := hR
  obtain ⟨c1, c2⟩ := cells_rel hx h1
  have hmul : (i + 1) * row.sz ≤ row.xs.length * row.sz := Nat.mul_le_mul_right _ hi
  rw [Nat.succ_mul] at hmul
  obtain ⟨w', C', hrun, hs, hg', hCs', hC'⟩ := run_storeVar_at (P := P) (o := sh + i * row.sz) ht (c1.trans hn) (fun k u hu => by
    have hk : k < x.cells.length := by rw [← c1]; exact (Array.getElem?_eq_some_iff.1 hu).1
    exact (c2 k _ u (List.getElem?_eq_getElem hk) hu).2) hg (by omega)
  refine ⟨w', hrun, ?_⟩
  have hr : r < σ.rw.length := (List.getElem?_eq_some_iff.1 hrow).1
  have hold : ∀ r' row', { σ with rw := σ.rw.set r (some ⟨row.sz, row.xs.set i x⟩) }.rw[r']? = some (some row') → (r' ≠ r ∧ σ.rw[r']? = some (some row')) ∨ (r' = r ∧ row' = Row.mk row.sz (row.xs.set i x)) := fun r' row' hr' => by
    simp only [List.getElem?_set] at hr'
    split at hr'
    · rename_i e
      cases hr'
      exact .inr ⟨e.symm, rfl⟩
    · rename_i e
      exact .inl ⟨fun e' => e e'.symm, hr'⟩
  have hown : ∀ b', Own μ { σ with rw := σ.rw.set r (some ⟨row.sz, row.xs.set i x⟩) } b' → Own μ σ b' := by
    rintro b' (⟨i, hi, rfl⟩ | ⟨r', row', sh', hr', hm'⟩)
    · exact .inl ⟨i, hi, rfl⟩
    · rcases hold r' row' hr' with ⟨_, h'⟩ | ⟨rfl, rfl⟩
      · exact .inr ⟨r', row', sh', h', hm'⟩
      · exact .inr ⟨r', row, sh', hrow, hm'⟩
  have hob : Own μ σ b := .inr ⟨r, row, sh, hrow, hm⟩
  have hlt : b < w.heap.size := h.mem.own_lt hob
  have t : Tr E (fun _ => False) w μ σ w' μ { σ with rw := σ.rw.set r (some ⟨row.sz, row.xs.set i x⟩) } := by
    refine ⟨fun b' hb' => ⟨⟨hb'.1, Nat.lt_of_lt_of_le hb'.2.1 hs.size, fun ho => hb'.2.2 (hown b' ho)⟩, .inl (hs.block b' hb'.2.1 (fun e => hb'.2.2 (e ▸ hob)))⟩, Nat.le_refl _, fun _ _ => rfl, by simp, fun r' row' _ _ hr' => ?_, room_stp hs hg hg' hCs'⟩
    rcases hold r' row' hr' with ⟨_, h'⟩ | ⟨rfl, rfl⟩
    · exact ⟨row', h', rfl, Nat.le_refl _, rfl⟩
    · exact ⟨row, hrow, rfl, by simp, rfl⟩
  refine h.step (hs.mono (fun k _ e => e ▸ hob)) (fun b' hb' => .inl (hown b' hb')) ⟨h.mem.bb, fun i r' row' sh' hi hr' => ?_, fun r1 r2 row1 row2 b' s1 s2 hr1 hr2 e1 e2 => ?_, fun i' y hy => ?_, fun r' row' hr' => ?_⟩ t rfl (fun k y hy => .inr ⟨hy, no_men y⟩)
  · rcases hold r' row' hr' with ⟨_, h'⟩ | ⟨rfl, rfl⟩
    · exact h.mem.br i r' row' sh' hi h'
    · exact h.mem.br i r' row sh' hi hrow
  · have f : ∀ r' row', { σ with rw := σ.rw.set r (some ⟨row.sz, row.xs.set i x⟩) }.rw[r']? = some (some row') → ∃ row'', σ.rw[r']? = some (some row'') := fun r' row' hr' => by
      rcases hold r' row' hr' with ⟨_, h'⟩ | ⟨rfl, _⟩
      · exact ⟨_, h'⟩
      · exact ⟨_, hrow⟩
    obtain ⟨_, g1⟩ := f r1 row1 hr1
    obtain ⟨_, g2⟩ := f r2 row2 hr2
    exact h.mem.rr r1 r2 _ _ b' s1 s2 g1 g2 e1 e2
  · have hi' : i' < σ.bx.length := (List.getElem?_eq_some_iff.1 hy).1
    refine (h.mem.box i' y hy).tr t (fun z _ => no_men z) (hs.block _ (h.mem.box i' y hy).lt (fun e' => ?_))
    exact h.mem.br i' r row sh hi' hrow (by rw [e']; exact hm)
  · rcases hold r' row' hr' with ⟨hne, h'⟩ | ⟨rfl, rfl⟩
    · refine (h.mem.row r' row' h').tr t (fun b' sh' e => hs.block b' ?_ (fun e' => ?_))
      · exact h.mem.own_lt (.inr ⟨r', row', sh', h', e⟩)
      · subst e'
        exact hne (h.mem.rr r' r row' row b' sh' sh h' hrow e hm)
    · rw [hm]
      refine ⟨h0, fun y hy => ?_, C', et, hg', by simp; omega, fun i' k y z u hy hz hu => ?_⟩
      · rcases List.mem_or_eq_of_mem_set hy with h' | rfl
        · exact hsz y h'
        · exact hn
      · simp only [List.getElem?_set] at hy
        rw [hC'] at hu
        dsimp only at hu
        have hkz : k < row.sz := by
          split at hy
          · cases hy
            rw [← hn]; exact (List.getElem?_eq_some_iff.1 hz).1
          · rw [← hsz y (List.mem_of_getElem? hy)]; exact (List.getElem?_eq_some_iff.1 hz).1
        split at hy
        · rename_i e
          subst e
          cases hy
          rw [if_pos (by omega)] at hu
          have e2 : sh + i * row.sz + k - (sh + i * row.sz) = k := by omega
          rw [e2] at hu
          exact (c2 k z u hz hu).1.mono t.fz
        · rename_i e
          have : ¬ (sh + i * row.sz ≤ sh + i' * row.sz + k ∧ sh + i' * row.sz + k < sh + i * row.sz + row.sz) := by
            rcases Nat.lt_or_gt_of_ne e with hlt' | hgt'
            · have : (i + 1) * row.sz ≤ i' * row.sz := Nat.mul_le_mul_right _ hlt'
              rw [Nat.succ_mul] at this
              omega
            · have : (i' + 1) * row.sz ≤ i * row.sz := Nat.mul_le_mul_right _ hgt'
              rw [Nat.succ_mul] at this
              omega
          rw [if_neg this] at hu
          exact (hC i' k y z u hy hz hu).mono t.fz
end Go.Aw

namespace Go.Aw
open Go.RowKit
variable {P : Program}

def V.kill (r : Nat) : V → V
  | .o r' off len => if r' = r then .j else .o r' off len
  | .e r' i s => if r' = r then .j else .e r' i s
  | v => v

theorem kill_cases (r : Nat) (x : V) : x.kill r = .j ∨ (x.kill r = x ∧ ¬ x.men (fun k => k = r)) := by
  cases x with
  | o r' off len =>
    by_cases h : r' = r
    · exact .inl (by simp [V.kill, h])
    · exact .inr (by simp [V.kill, h, V.men])
  | e r' i s =>
    by_cases h : r' = r
    · exact .inl (by simp [V.kill, h])
    · exact .inr (by simp [V.kill, h, V.men])
  | _ => exact .inr ⟨rfl, fun h => h⟩

theorem kill_cells (r : Nat) (x : V) : (x.kill r).cells = x.cells.map (V.kill r) := by
  cases x with
  | d x => cases x <;> simp [V.kill, V.cells]
  | o r' off len => by_cases h : r' = r <;> simp [V.kill, V.cells, h]
  | e r' i s => by_cases h : r' = r <;> simp [V.kill, V.cells, h]
  | _ => rfl

theorem Rel.regrow {E : Env} {σ : St} {μ : Map} {a : Act} {w w' : World} (h : Rel E σ μ a w) {r : Nat} {row : Row} {xs' : List D} {loc : Option (Nat × Nat)} (hrow : σ.rw[r]? = some (some row))
    (hs : Stp (fun k => ∃ sh, μ.r r = some (k, sh)) w w') (hroom : ∀ b n, Room w b n → Room w' b n) (hloc : ∀ b sh, loc = some (b, sh) → (∃ sh', μ.r r = some (b, sh')) ∨ w.heap.size ≤ b)
    (hnil : loc = none → xs' = []) (hok : ∀ b sh, loc = some (b, sh) → 0 < row.sz ∧ (∀ x ∈ xs', x.cells.length = row.sz) ∧ ∃ C et, w'.heap[b]? = some (.cells C et (0, 0)) ∧ sh + xs'.length * row.sz ≤ C.size ∧
      ∀ (i k : Nat) (x y : D) (u : Value), xs'[i]? = some x → x.cells[k]? = some y → C[sh + i * row.sz + k]? = some u → RelD w (Fz E w μ σ) y u) :
    Rel E { tm := σ.tm.map (V.kill r), bx := σ.bx.map (V.kill r), rw := σ.rw.set r (some ⟨row.sz, xs'⟩), gh := σ.gh.map (V.kill r), fx := σ.fx.map fun p => (p.1, V.kill r p.2) } (μ.row r loc) a w' := by
  have hr : r < σ.rw.length := (List.getElem?_eq_some_iff.1 hrow).1
  have hold : ∀ r' row', (σ.rw.set r (some (Row.mk row.sz xs')))[r']? = some (some row') → (r' ≠ r ∧ σ.rw[r']? = some (some row')) ∨ (r' = r ∧ row' = Row.mk row.sz xs') := fun r' row' hr' => by
    rw [List.getElem?_set] at hr'
    split at hr'
    · rename_i e
      cases hr'
      exact .inr ⟨e.symm, rfl⟩
    · rename_i e
      exact .inl ⟨fun e' => e e'.symm, hr'⟩
  have hmr : ∀ r', r' ≠ r → (μ.row r loc).r r' = μ.r r' := fun r' hn => by simp [Map.row, hn]
  have hmn : (μ.row r loc).r r = loc := by simp [Map.row]
  have hown : ∀ b, Own (μ.row r loc) { tm := σ.tm.map (V.kill r), bx := σ.bx.map (V.kill r), rw := σ.rw.set r (some ⟨row.sz, xs'⟩), gh := σ.gh.map (V.kill r), fx := σ.fx.map fun p => (p.1, V.kill r p.2) } b → Own μ σ b ∨ w.heap.size ≤ b := by
    rintro b (⟨i, hi, rfl⟩ | ⟨r', row', sh, hr', hm⟩)
    · exact .inl (.inl ⟨i, by simpa using hi, rfl⟩)
    · rcases hold r' row' hr' with ⟨hn, h'⟩ | ⟨rfl, _⟩
      · rw [hmr r' hn] at hm
        exact .inl (.inr ⟨r', row', sh, h', hm⟩)
      · rw [hmn] at hm
        rcases hloc b sh hm with ⟨sh', h'⟩ | h'
        · exact .inl (.inr ⟨r', row, sh', hrow, h'⟩)
        · exact .inr h'
  have hob : ∀ k sh, μ.r r = some (k, sh) → Own μ σ k := fun k sh e => .inr ⟨r, row, sh, hrow, e⟩
  have hblk : ∀ b, b < w.heap.size → (∀ sh, μ.r r ≠ some (b, sh)) → w'.heap[b]? = w.heap[b]? := fun b hb hn => hs.block b hb (fun ⟨sh, e⟩ => hn sh e)
  have t : Tr E (fun k => k = r) w μ σ w' (μ.row r loc) { tm := σ.tm.map (V.kill r), bx := σ.bx.map (V.kill r), rw := σ.rw.set r (some ⟨row.sz, xs'⟩), gh := σ.gh.map (V.kill r), fx := σ.fx.map fun p => (p.1, V.kill r p.2) } := by
    refine ⟨fun b hb => ⟨⟨hb.1, Nat.lt_of_lt_of_le hb.2.1 hs.size, fun ho => ?_⟩, (.inl (hblk b hb.2.1 (fun sh e => hb.2.2 (hob b sh e))))⟩, by simp, fun _ _ => rfl, by simp, fun r' row' _ hX hr' => ?_, hroom⟩
    · rcases hown b ho with h' | h'
      · exact hb.2.2 h'
      · have := hb.2.1; omega
    · rcases hold r' row' hr' with ⟨hn, h'⟩ | ⟨rfl, _⟩
      · exact ⟨row', h', rfl, Nat.le_refl _, hmr r' hn⟩
      · exact absurd rfl hX
  refine h.step (hs.mono (fun k _ ⟨sh, e⟩ => hob k sh e)) hown ⟨fun i k hi hk => h.mem.bb i k (by simpa using hi) (by simpa using hk), fun i r' row' sh hi hr' => ?_, fun r1 r2 row1 row2 b s1 s2 hr1 hr2 e1 e2 => ?_, fun i y hy => ?_, fun r' row' hr' => ?_⟩ t (by simp) (fun k y hy => ?_) ⟨by simp, fun k y hy => ?_⟩ (fun v y hy => ?_)
  · have hi' : i < σ.bx.length := by simpa using hi
    rcases hold r' row' hr' with ⟨hn, h'⟩ | ⟨rfl, _⟩
    · rw [hmr r' hn]; exact h.mem.br i r' row' sh hi' h'
    · rw [hmn]
      intro e
      rcases hloc _ sh e with ⟨sh', h'⟩ | h'
      · exact h.mem.br i r' row sh' hi' hrow h'
      · have := h.mem.own_lt (.inl ⟨i, hi', rfl⟩)
        have e0 : (μ.row r' loc).b i = μ.b i := rfl
        omega
  · rcases hold r1 row1 hr1 with ⟨hn1, h1⟩ | ⟨rfl, rfl⟩ <;> rcases hold r2 row2 hr2 with ⟨hn2, h2⟩ | ⟨rfl, rfl⟩
    · rw [hmr _ hn1] at e1
      rw [hmr _ hn2] at e2
      exact h.mem.rr r1 r2 row1 row2 b s1 s2 h1 h2 e1 e2
    · rw [hmr _ hn1] at e1
      rw [hmn] at e2
      rcases hloc _ _ e2 with ⟨sh', h'⟩ | h'
      · exact h.mem.rr r1 r2 row1 row b s1 sh' h1 hrow e1 h'
      · have := h.mem.own_lt (.inr ⟨r1, row1, s1, h1, e1⟩); omega
    · rw [hmr _ hn2] at e2
      rw [hmn] at e1
      rcases hloc _ _ e1 with ⟨sh', h'⟩ | h'
      · exact h.mem.rr r1 r2 row row2 b sh' s2 hrow h2 h' e2
      · have := h.mem.own_lt (.inr ⟨r2, row2, s2, h2, e2⟩); omega
    · rfl
  · simp only [List.getElem?_map] at hy
    cases hx : σ.bx[i]? with
    | none => simp [hx] at hy
    | some x =>
      simp [hx] at hy
      subst hy
      have hi : i < σ.bx.length := (List.getElem?_eq_some_iff.1 hx).1
      obtain ⟨C, et, g1, g2, g3⟩ := h.mem.box i x hx
      have hlt := (h.mem.box i x hx).lt
      refine ⟨C, et, (hblk _ hlt (fun sh e => h.mem.br i r row sh hi hrow e)).trans g1, by rw [kill_cells]; simpa using g2, fun k z u hz hu => ?_⟩
      rw [kill_cells, List.getElem?_map] at hz
      cases hz' : x.cells[k]? with
      | none => simp [hz'] at hz
      | some z' =>
        simp [hz'] at hz
        subst hz
        rcases kill_cases r z' with e | ⟨e, hn⟩
        · rw [e]; trivial
        · rw [e]; exact (g3 k z' u hz' hu).tr t hn
  · rcases hold r' row' hr' with ⟨hn, h'⟩ | ⟨rfl, rfl⟩
    · rw [hmr r' hn]
      refine (h.mem.row r' row' h').tr t (fun b sh e => hblk b ?_ (fun sh' e' => ?_))
      · exact h.mem.own_lt (.inr ⟨r', row', sh, h', e⟩)
      · exact hn (h.mem.rr r' r row' row b sh sh' h' hrow e e')
    · rw [hmn]
      cases loc with
      | none => exact hnil rfl
      | some p =>
        obtain ⟨b, sh⟩ := p
        obtain ⟨k0, k1, C, et, k2, k3, k4⟩ := hok b sh rfl
        exact ⟨k0, k1, C, et, k2, k3, fun i k x y u hx hy hu => (k4 i k x y u hx hy hu).mono t.fz⟩
  · simp only [List.getElem?_map] at hy
    cases hx : σ.tm[k]? with
    | none => simp [hx] at hy
    | some x =>
      simp [hx] at hy
      subst hy
      rcases kill_cases r x with e | ⟨e, hn⟩
      · exact .inl e
      · exact .inr ⟨by rw [e], by rw [e]; exact hn⟩
  · simp only [List.getElem?_map] at hy
    cases hx : σ.gh[k]? with
    | none => simp [hx] at hy
    | some x =>
      simp [hx] at hy
      subst hy
      rcases kill_cases r x with e | ⟨e, hn⟩
      · exact .inl e
      · exact .inr ⟨by rw [e], by rw [e]; exact hn⟩
  · obtain ⟨⟨v', x⟩, hx, e⟩ := List.mem_map.1 hy
    simp only [Prod.mk.injEq] at e
    obtain ⟨rfl, rfl⟩ := e
    rcases kill_cases r x with e | ⟨e, hn⟩
    · exact .inl e
    · exact .inr ⟨by rw [e]; exact hx, by rw [e]; exact hn⟩
end Go.Aw

namespace Go.Aw
open Go.RowKit
variable {P : Program}

def srcK (σ : St) (sz : Nat) (x : V) (k : List D → Prop) : Prop :=
  match x with
  | .nl => k []
  | .d (.l ys) => k ys
  | .o r off len => rwK σ r fun row => row.sz = sz ∧ k ((row.xs.drop off).take len)
  | _ => False

structure Src (w : World) (N : Nat → Prop) (sz : Nat) (ys : List D) (A : Option Addr) (news : List Value) : Prop where
  len : news.length = ys.length * sz
  none : A = none → ys = []
  cell : ∀ ad, A = some ad → ∀ (j : Nat) (v : Value), news[j]? = some v → w.cell? (ad.add j) = some v
  rel : ∀ (i k : Nat) (x y : D) (u : Value), ys[i]? = some x → x.cells[k]? = some y → news[i * sz + k]? = some u → RelD w N y u
  one : ∀ u ∈ news, u.oneCell' = true

theorem src_of {w : World} {N : Nat → Prop} {sz : Nat} {ys : List D} {ad : Addr} (h0 : 0 < sz) (hs : ∀ x ∈ ys, x.cells.length = sz ∧ x.cells.all D.one = true) (u : Nat → Nat → Value)
    (hu : ∀ (i k : Nat) (x y : D), ys[i]? = some x → x.cells[k]? = some y → w.cell? (ad.add (i * sz + k)) = some (u i k) ∧ RelD w N y (u i k)) :
    Src w N sz ys (some ad) ((List.range (ys.length * sz)).map fun j => u (j / sz) (j % sz)) := by
  have key : ∀ j, j < ys.length * sz → ∃ x y, ys[j / sz]? = some x ∧ x.cells[j % sz]? = some y ∧ j / sz * sz + j % sz = j := fun j hj => by
    have h1 : j / sz < ys.length := Nat.div_lt_of_lt_mul (by rw [Nat.mul_comm]; exact hj)
    have h2 : j % sz < sz := Nat.mod_lt _ h0
    have hx := List.getElem?_eq_getElem h1
    have hl := (hs _ (List.mem_of_getElem? hx)).1
    exact ⟨_, _, hx, List.getElem?_eq_getElem (by rw [hl]; exact h2), by rw [Nat.mul_comm]; exact Nat.div_add_mod j sz⟩
  refine ⟨by simp, (by simp), fun ad' e j v hv => ?_, fun i k x y v hx hy hv => ?_, fun v hv => ?_⟩
  · cases e
    have hj : j < ys.length * sz := by have := (List.getElem?_eq_some_iff.1 hv).1; simpa using this
    rw [List.getElem?_map, List.getElem?_range hj] at hv
    simp at hv
    subst hv
    obtain ⟨x, y, hx, hy, e⟩ := key j hj
    have := (hu _ _ x y hx hy).1
    rwa [e] at this
  · have hk : k < sz := by rw [← (hs x (List.mem_of_getElem? hx)).1]; exact (List.getElem?_eq_some_iff.1 hy).1
    have hj : i * sz + k < ys.length * sz := by have := (List.getElem?_eq_some_iff.1 hv).1; simpa using this
    rw [List.getElem?_map, List.getElem?_range hj] at hv
    have e1 : (i * sz + k) / sz = i := by rw [Nat.mul_comm, Nat.mul_add_div h0, Nat.div_eq_of_lt hk]; rfl
    have e2 : (i * sz + k) % sz = k := by rw [Nat.mul_comm, Nat.mul_add_mod, Nat.mod_eq_of_lt hk]
    simp [e1, e2] at hv
    subst hv
    exact (hu i k x y hx hy).2
  · obtain ⟨j, hj, rfl⟩ := List.mem_map.1 hv
    obtain ⟨x, y, hx, hy, _⟩ := key j (List.mem_range.1 hj)
    exact (hu _ _ x y hx hy).2.one_ (List.all_eq_true.1 (hs x (List.mem_of_getElem? hx)).2 y (List.mem_of_getElem? hy))

theorem src_sound {E : Env} {σ : St} {μ : Map} {a : Act} {w : World} {x : V} {v : Value} {sz : Nat} {k : List D → Prop} (hr : Rel E σ μ a w) (h : srcK σ sz x k) (hv : RelV E w μ σ x v) :
    ∃ ys A c, k ys ∧ v = .slice A ys.length c ∧ (0 < sz → (∀ x ∈ ys, x.cells.length = sz ∧ x.cells.all D.one = true) → ∃ news, Src w (Fz E w μ σ) sz ys A news) := by
  have nilSrc : ∀ (A : Option Addr), Src w (Fz E w μ σ) sz [] A [] := fun A => ⟨by simp, fun _ => rfl, fun _ _ j v hv => by simp at hv, fun i k x y u hx => by simp at hx, fun u hu => by simp at hu⟩
  unfold srcK at h
  split at h
  · obtain rfl : v = .slice none 0 0 := hv
    exact ⟨[], none, 0, h, rfl, fun _ _ => ⟨[], nilSrc _⟩⟩
  · rename_i ys
    cases hv with
    | nl A cap => exact ⟨[], A, cap, h, rfl, fun _ _ => ⟨[], nilSrc _⟩⟩
    | l _ ad cap sz' u hc hN hs hu hrr =>
      refine ⟨ys, some ad, cap, h, rfl, fun h0 hsz => ?_⟩
      by_cases hn : ys = []
      · subst hn; exact ⟨[], nilSrc _⟩
      · have : sz' = sz := by
          obtain ⟨x0, hx0⟩ := List.exists_mem_of_ne_nil ys hn
          obtain ⟨i, hi⟩ := List.getElem?_of_mem hx0
          rw [← hs i x0 hi]; exact (hsz x0 hx0).1
        subst this
        exact ⟨_, src_of h0 hsz u (fun i k x y hx hy => ⟨hu i k x y hx hy, hrr i k x y hx hy⟩)⟩
  · rename_i r off len
    obtain ⟨row, hrow, rfl, h'⟩ := rwK_inv h
    obtain ⟨_, hv⟩ := hv
    obtain ⟨hle, hv⟩ := hv row hrow
    have hlen : ((row.xs.drop off).take len).length = len := by simp; omega
    rcases hv with ⟨_, rfl, rfl⟩ | ⟨b, sh, A, cap, hm, rfl, hcap, hA, hroom⟩
    · refine ⟨_, none, 0, h', by rw [hlen], fun _ _ => ?_⟩
      have : (row.xs.drop off).take 0 = [] := rfl
      rw [this]
      exact ⟨[], nilSrc _⟩
    · refine ⟨_, A, cap, h', by rw [hlen], fun h0 hsz => ?_⟩
      by_cases hn : len = 0
      · subst hn
        have : (row.xs.drop off).take 0 = [] := rfl
        rw [this]
        exact ⟨[], nilSrc _⟩
      · obtain rfl := hA (.inl (by omega))
        have hf : ∀ i k, ∃ u, ∀ x y, ((row.xs.drop off).take len)[i]? = some x → x.cells[k]? = some y → w.cell? ((⟨b, sh + off * row.sz, none⟩ : Addr).add (i * row.sz + k)) = some u ∧ RelD w (Fz E w μ σ) y u := fun i k => by
          cases hx : ((row.xs.drop off).take len)[i]? with
          | none => exact ⟨undef, fun x y hx' => by cases hx'⟩
          | some x =>
            cases hy : x.cells[k]? with
            | none => exact ⟨undef, fun x' y hx' hy' => by cases hx'; rw [hy] at hy'; cases hy'⟩
            | some y =>
              have hx2 : row.xs[off + i]? = some x := by
                rw [List.getElem?_take] at hx
                split at hx
                · rwa [List.getElem?_drop] at hx
                · cases hx
              obtain ⟨u, g1, g2⟩ := row_cell hr hrow hm hx2 hy
              refine ⟨u, fun x' y' hx' hy' => ?_⟩
              cases hx'
              rw [hy] at hy'
              cases hy'
              refine ⟨?_, g2⟩
              rw [addr_add, ← g1]
              congr 2
              rw [Nat.add_mul]; omega
        let u : Nat → Nat → Value := fun i k => Classical.choose (hf i k)
        exact ⟨_, src_of h0 hsz u (fun i k x y hx hy => Classical.choose_spec (hf i k) x y hx hy)⟩
  · exact h.elim

def St.app (σ : St) (r : Nat) (row : Row) : St := { tm := σ.tm.map (V.kill r), bx := σ.bx.map (V.kill r), rw := σ.rw.set r (some row), gh := σ.gh.map (V.kill r), fx := σ.fx.map fun p => (p.1, V.kill r p.2) }

/-- Of an element's type: its zero value, and its bytes. -/
def zbOf (P : Program) (t : TypeId) : Option (Value × Nat) :=
  match P.info? t with
  | some i => match i.zero with
    | some z => some (z, i.bytes)
    | none => none
  | none => none
def zbK (P : Program) (t : TypeId) (k : Value → Nat → Prop) : Prop := ∃ z b, zbOf P t = some (z, b) ∧ k z b

theorem zb_inv {t : TypeId} {z : Value} {b : Nat} {g : Bool} {n : Nat} (h : zbOf P t = some (z, b)) (ht : tyOf P t = some (g, n)) : ∃ i, P.info? t = some i ∧ i.zero = some z ∧ i.bytes = b ∧ i.size = n := by
  unfold zbOf at h
  split at h
  · rename_i i hi
    split at h
    · rename_i z' hz
      simp only [Option.some.injEq, Prod.mk.injEq] at h
      refine ⟨i, hi, by rw [hz, h.1], h.2, ?_⟩
      unfold tyOf at ht
      rw [hi] at ht
      split at ht <;> simp_all
    · cases h
  · cases h

theorem cells_split {α : Type} {ds : List D} {es : List D} {sz len : Nat} {us vs : List Value} (P1 : D → Value → Prop) (hl : us.length = len * sz) (hd : ds.length = len)
    (h1 : ∀ (i k : Nat) (x y : D) (u : Value), ds[i]? = some x → x.cells[k]? = some y → us[i * sz + k]? = some u → P1 y u)
    (h2 : ∀ (i k : Nat) (x y : D) (u : Value), es[i]? = some x → x.cells[k]? = some y → vs[i * sz + k]? = some u → P1 y u)
    (hs : ∀ x ∈ ds ++ es, x.cells.length = sz) (_ : α) :
    ∀ (i k : Nat) (x y : D) (u : Value), (ds ++ es)[i]? = some x → x.cells[k]? = some y → (us ++ vs)[i * sz + k]? = some u → P1 y u := fun i k x y u hx hy hu => by
  have hk : k < sz := by rw [← hs x (List.mem_of_getElem? hx)]; exact (List.getElem?_eq_some_iff.1 hy).1
  by_cases hi : i < len
  · rw [List.getElem?_append_left (by omega)] at hx
    have : (i + 1) * sz ≤ len * sz := Nat.mul_le_mul_right _ hi
    rw [Nat.succ_mul] at this
    rw [List.getElem?_append_left (by omega)] at hu
    exact h1 i k x y u hx hy hu
  · rw [List.getElem?_append_right (by omega)] at hx
    have : len * sz ≤ i * sz := Nat.mul_le_mul_right _ (by omega)
    rw [List.getElem?_append_right (by omega)] at hu
    refine h2 (i - ds.length) k x y u hx hy ?_
    rw [← hu]
    congr 1
    rw [Nat.sub_mul, hd]
    omega
end Go.Aw

namespace Go.Aw
open Go.RowKit
variable {P : Program}

theorem run_append_same {t ty e : TypeId} {i : TypeInfo} {w : World} {A A' : Option Addr} {len cap c : Nat} (ht : P.underlying t = some (.slice e)) (hi : P.info? e = some i) (hlen : len ≤ cap) :
    (Builtin.append_ #[t, t] ty #[.slice A len cap, .slice A' 0 c]).run P w = .ok (.slice A len cap) w := by
  cases A <;> cases A' <;> simp [Builtin.append_, run_underlying ht, sizeOf, typeInfo, hi, Builtin.lenOf, Builtin.firstCells, loadCells, loadCellsFrom, hlen, storeCells]

theorem run_append_fit {t ty e : TypeId} {i : TypeInfo} {w w' : World} {b o : Nat} {ad : Addr} {len cap m c : Nat} {news : List Value} (ht : P.underlying t = some (.slice e)) (hi : P.info? e = some i) (hroom : len + m ≤ cap)
    (hl : news.length = m * i.size) (hnews : ∀ (j : Nat) (v : Value), news[j]? = some v → w.cell? (ad.add j) = some v) (hst : (storeCells ⟨b, o + len * i.size, none⟩ news 0).run P w = .ok () w') :
    (Builtin.append_ #[t, t] ty #[.slice (some ⟨b, o, none⟩) len cap, .slice (some ad) m c]).run P w = .ok (.slice (some ⟨b, o, none⟩) (len + m) cap) w' := by
  have hf := run_firstCells_some (P := P) w i.size m ad m c news hl hnews
  simp [Builtin.append_, run_underlying ht, sizeOf, typeInfo, hi, Builtin.lenOf, hroom, hf, addr_add, hst]

theorem growSlot {w : World} {need cap : Nat} {e : TypeId} {z : Value} {sz : Nat} {olds news : List Value} (hz : z.cells.size = sz) (ho : (olds ++ news).length = need * sz) :
    (olds.toArray ++ news.toArray ++ Builtin.zeroCells z.cells (grownCap w need cap e - need)).size = grownCap w need cap e * sz := by
  have hge := grownCap_ge w need cap e
  rw [List.length_append] at ho
  simp only [Array.size_append, List.size_toArray, size_zeroCells, hz, ho, ← Nat.add_mul]
  congr 1
  omega

theorem append_sound {E : Env} {σ : St} {μ : Map} {a : Act} {w : World} (h : Rel E σ μ a w) {t e ty : TypeId} {i : TypeInfo} {z : Value} {r off len : Nat} {row : Row} {v : Value} {ys : List D} {A' : Option Addr} {c : Nat} {news : List Value}
    (ht : P.underlying t = some (.slice e)) (hi : P.info? e = some i) (hz : i.zero = some z) (hzs : z.cells.size = i.size) (h0 : 0 < i.size) (hsz : row.sz = i.size) (hrow : σ.rw[r]? = some (some row)) (hv : RelV E w μ σ (.o r off len) v) (hend : off + len = row.xs.length)
    (hne : ys = [] → off = 0) (hys : ∀ x ∈ ys, x.cells.length = i.size ∧ x.cells.all D.one = true) (hsrc : Src w (Fz E w μ σ) i.size ys A' news) (hb : (len + ys.length) * i.bytes ≤ 140737488355328) (hb' : len + ys.length ≤ 140737488355328) :
    ∃ v' w' μ', (Builtin.append_ #[t, t] ty #[v, .slice A' ys.length c]).run P w = .ok v' w' ∧ Rel E (σ.app r ⟨row.sz, row.xs.drop off ++ ys⟩) μ' a w' ∧ RelV E w' μ' (σ.app r ⟨row.sz, row.xs.drop off ++ ys⟩) (.o r 0 (len + ys.length)) v' := by
  have hr : r < σ.rw.length := (List.getElem?_eq_some_iff.1 hrow).1
  have hdl : (row.xs.drop off).length = len := by simp; omega
  have hR := h.mem.row r row hrow
  have hget : ∀ row', (σ.app r ⟨row.sz, row.xs.drop off ++ ys⟩).rw[r]? = some (some row') → row' = ⟨row.sz, row.xs.drop off ++ ys⟩ := fun row' hr' => by
    simp [St.app, hr] at hr'
    exact hr'.symm
  have hlr : r < (σ.app r ⟨row.sz, row.xs.drop off ++ ys⟩).rw.length := by simpa [St.app] using hr
  have hxl : (row.xs.drop off ++ ys).length = len + ys.length := by rw [List.length_append, hdl]
  -- a new block
  have fresh : ∀ (olds : List Value) (cap : Nat), cap < len + ys.length → olds.length = len * i.size → (∀ x ∈ row.xs.drop off, x.cells.length = i.size) →
      (∀ (j k : Nat) (x y : D) (u : Value), (row.xs.drop off)[j]? = some x → x.cells[k]? = some y → olds[j * i.size + k]? = some u → RelD w (Fz E w μ σ) y u) →
      Rel E (σ.app r ⟨row.sz, row.xs.drop off ++ ys⟩) (μ.row r (some (w.heap.size, 0))) a (w.drew.alloc (.cells (olds.toArray ++ news.toArray ++ Builtin.zeroCells z.cells (grownCap w (len + ys.length) cap e - (len + ys.length))) e)) ∧
      RelV E (w.drew.alloc (.cells (olds.toArray ++ news.toArray ++ Builtin.zeroCells z.cells (grownCap w (len + ys.length) cap e - (len + ys.length))) e)) (μ.row r (some (w.heap.size, 0))) (σ.app r ⟨row.sz, row.xs.drop off ++ ys⟩) (.o r 0 (len + ys.length))
        (.slice (some ⟨w.heap.size, 0, none⟩) (len + ys.length) (grownCap w (len + ys.length) cap e)) := by
    intro olds cap hc hol hd ho
    have hlen : (olds ++ news).length = (len + ys.length) * i.size := by rw [List.length_append, hol, hsrc.len, Nat.add_mul]
    have hcs := growSlot (w := w) (cap := cap) (e := e) hzs hlen
    have hge := grownCap_ge w (len + ys.length) cap e
    have heap : ∀ k, k < w.heap.size → (w.drew.alloc (.cells (olds.toArray ++ news.toArray ++ Builtin.zeroCells z.cells (grownCap w (len + ys.length) cap e - (len + ys.length))) e)).heap[k]? = w.heap[k]? := fun k hk => Below.heap_alloc w.drew _ k hk
    have hnew := World.alloc_heap_new w.drew (.cells (olds.toArray ++ news.toArray ++ Builtin.zeroCells z.cells (grownCap w (len + ys.length) cap e - (len + ys.length))) e)
    have hmul : (len + ys.length) * i.size ≤ grownCap w (len + ys.length) cap e * i.size := Nat.mul_le_mul_right _ hge
    constructor
    · refine h.regrow hrow (((Stp.drew (Ow := fun _ => False) w).trans (Stp.alloc (Ow := fun _ => False) w.drew _) (fun _ h => h.elim)).mono (fun _ _ h => h.elim)) ?_ (fun b sh e => ?_) (fun e => by cases e) (fun b sh e => ?_)
      · rintro b n ⟨D, et', fr, g1, g2⟩
        exact ⟨D, et', fr, (heap b (Array.getElem?_eq_some_iff.1 g1).1).trans g1, g2⟩
      · cases e; exact .inr (Nat.le_refl _)
      · cases e
        refine ⟨by omega, fun x hx => ?_, _, _, hnew, by rw [hcs, hxl, hsz]; omega, fun j k x y u hx hy hu => ?_⟩
        · rw [hsz]
          rcases List.mem_append.1 hx with h' | h'
          · exact hd x h'
          · exact (hys x h').1
        · rw [hsz, Nat.zero_add] at hu
          have hx' : x ∈ row.xs.drop off ++ ys := List.mem_of_getElem? hx
          have hsx : ∀ x ∈ row.xs.drop off ++ ys, x.cells.length = i.size := fun x hx => (List.mem_append.1 hx).elim (hd x) (fun h => (hys x h).1)
          have hkk : j * i.size + k < (olds ++ news).length := by
            rw [hlen]
            have h1 : j < len + ys.length := by rw [← hxl]; exact (List.getElem?_eq_some_iff.1 hx).1
            have h2 : k < i.size := by rw [← hsx x hx']; exact (List.getElem?_eq_some_iff.1 hy).1
            have : (j + 1) * i.size ≤ (len + ys.length) * i.size := Nat.mul_le_mul_right _ h1
            rw [Nat.succ_mul] at this
            omega
          rw [Array.getElem?_append_left (by simpa using hkk)] at hu
          exact cells_split (α := Unit) (fun y u => RelD w (Fz E w μ σ) y u) hol hdl ho hsrc.rel hsx () j k x y u hx hy (by simpa using hu)
    · refine ⟨⟨hlr, _, _, _, rfl⟩, fun row' hr' => ?_⟩
      obtain rfl := hget row' hr'
      refine ⟨by rw [hxl]; omega, .inr ⟨w.heap.size, 0, _, _, by simp [Map.row], rfl, hge, fun _ => by simp, _, _, _, hnew, ?_⟩⟩
      rw [hcs]
      simp [hsz]
  have hbig : ((len + ys.length : Nat) : Int) ≤ 9223372036854775807 := by omega
  obtain ⟨_, hv⟩ := hv
  obtain ⟨hle, hv⟩ := hv row hrow
  rcases hv with ⟨hm, rfl, rfl⟩ | ⟨b, sh, A, cap, hm, rfl, hcap, hA, hroom⟩
  · rw [hm] at hR
    have hxs : row.xs = [] := hR
    have hd0 : row.xs.drop off = [] := by rw [hxs]; simp
    by_cases hy0 : ys = []
    · subst hy0
      refine ⟨.slice none 0 0, w, μ.row r none, run_append_same ht hi (Nat.le_refl _), h.regrow hrow (Stp.refl _ w) (fun _ _ h => h) (fun b sh e => by cases e) (fun _ => by rw [hd0]; rfl) (fun b sh e => by cases e), ⟨hlr, _, _, _, rfl⟩, fun row' hr' => ?_⟩
      obtain rfl := hget row' hr'
      exact ⟨by simp, .inl ⟨by simp [Map.row], rfl, rfl⟩⟩
    · cases A' with
      | none => exact absurd (hsrc.none rfl) hy0
      | some ad =>
        have hpos : 0 < ys.length := List.length_pos_iff.2 hy0
        have hrun := run_append_nil (P := P) w t ty e i z ht hi hz ad ys.length c news hsrc.len (hsrc.cell ad rfl) hpos (by omega) (by simp only [Nat.zero_add] at hb; omega)
        obtain ⟨g1, g2⟩ := fresh [] 0 (by omega) (by simp) (by rw [hd0]; simp) (by simp)
        simp only [Nat.zero_add, Array.empty_append] at g1 g2 ⊢
        exact ⟨_, _, _, hrun, by simpa using g1, by simpa using g2⟩
  · rw [hm] at hR
    obtain ⟨q0, q1, C, et, q2, q3, q4⟩ := hR
    have hdx : ∀ x ∈ row.xs.drop off, x.cells.length = i.size := fun x hx => by rw [← hsz]; exact q1 x (List.mem_of_mem_drop hx)
    by_cases hy0 : ys = []
    · subst hy0
      refine ⟨.slice A len cap, w, μ.row r (some (b, sh + off * row.sz)), run_append_same ht hi hcap, h.regrow hrow (Stp.refl _ w) (fun _ _ h => h) (fun b' sh' e => by cases e; exact .inl ⟨sh, hm⟩) (fun e => by cases e) (fun b' sh' e => ?_), ⟨hlr, _, _, _, rfl⟩, fun row' hr' => ?_⟩
      · cases e
        refine ⟨q0, fun x hx => ?_, C, et, q2, ?_, fun j k x y u hx hy hu => ?_⟩
        · simp at hx; exact q1 x (List.mem_of_mem_drop hx)
        · simp only [List.append_nil, hdl]
          rw [← hend, Nat.add_mul] at q3
          omega
        · simp only [List.append_nil, List.getElem?_drop] at hx
          refine q4 _ k x y u hx hy ?_
          rw [← hu]
          congr 1
          rw [Nat.add_mul]; omega
      · obtain rfl := hget row' hr'
        refine ⟨by simp; omega, .inr ⟨b, sh + off * row.sz, A, cap, by simp [Map.row], rfl, by simpa using hcap, fun _ => by rw [hA (.inr (hne rfl))]; simp, ?_⟩⟩
        have : sh + off * row.sz + (0 + cap) * row.sz = sh + (off + cap) * row.sz := by rw [Nat.zero_add, Nat.add_mul]; omega
        show Room w b (sh + off * row.sz + (0 + cap) * row.sz)
        rw [this]; exact hroom
    · have hpos : 0 < ys.length := List.length_pos_iff.2 hy0
      cases A' with
      | none => exact absurd (hsrc.none rfl) hy0
      | some ad =>
        by_cases hfit : len + ys.length ≤ cap
        · obtain rfl := hA (.inl (by omega))
          obtain ⟨C0, et0, fr0, r1, r2⟩ := hroom
          rw [q2] at r1
          cases r1
          have hm1 : (off + len + ys.length) * row.sz ≤ (off + cap) * row.sz := Nat.mul_le_mul_right _ (by omega)
          have e1 : (off + len + ys.length) * row.sz = off * row.sz + len * row.sz + ys.length * row.sz := by rw [Nat.add_mul, Nat.add_mul]
          have hnl : news.length = ys.length * row.sz := by rw [hsz]; exact hsrc.len
          obtain ⟨w', C', s1, s2, s3, s4, s5⟩ := run_storeCells_at (P := P) b (sh + off * row.sz + len * i.size) et news 0 w C q2 (by rw [← hsz]; omega) hsrc.one
          have hrun := run_append_fit (P := P) (ty := ty) (c := c) ht hi hfit hsrc.len (hsrc.cell ad rfl) s1
          refine ⟨_, w', μ.row r (some (b, sh + off * row.sz)), hrun, h.regrow hrow (s2.mono (fun k _ e => ⟨sh, by rw [e]; exact hm⟩)) (room_stp s2 q2 s3 s4) (fun b' sh' e => by cases e; exact .inl ⟨sh, hm⟩) (fun e => by cases e) (fun b' sh' e => ?_), ⟨hlr, _, _, _, rfl⟩, fun row' hr' => ?_⟩
          · cases e
            have hsx : ∀ x ∈ row.xs.drop off ++ ys, x.cells.length = row.sz := fun x hx => (List.mem_append.1 hx).elim (fun h => by rw [hsz]; exact hdx x h) (fun h => by rw [hsz]; exact (hys x h).1)
            refine ⟨q0, hsx, C', et, s3, by rw [s4, hxl, Nat.add_mul]; omega, fun j k x y u hx hy hu => ?_⟩
            have hk : k < row.sz := by rw [← hsx x (List.mem_of_getElem? hx)]; exact (List.getElem?_eq_some_iff.1 hy).1
            rw [s5] at hu
            by_cases hj : j < len
            · rw [List.getElem?_append_left (by omega), List.getElem?_drop] at hx
              have : (j + 1) * row.sz ≤ len * row.sz := Nat.mul_le_mul_right _ hj
              rw [Nat.succ_mul] at this
              rw [if_neg (by rw [← hsz]; omega)] at hu
              refine q4 _ k x y u hx hy ?_
              rw [← hu]
              congr 1
              rw [Nat.add_mul]; omega
            · rw [List.getElem?_append_right (by omega)] at hx
              have h1 : len * row.sz ≤ j * row.sz := Nat.mul_le_mul_right _ (by omega)
              have h2 : j - len < ys.length := by rw [hdl] at hx; exact (List.getElem?_eq_some_iff.1 hx).1
              have h3 : (j + 1) * row.sz ≤ (len + ys.length) * row.sz := Nat.mul_le_mul_right _ (by omega)
              rw [Nat.succ_mul, Nat.add_mul] at h3
              rw [if_pos (by rw [← hsz, hnl]; omega)] at hu
              refine hsrc.rel (j - len) k x y u (by rw [hdl] at hx; exact hx) hy ?_
              rw [← hu, ← hsz, Nat.sub_mul]
              congr 1
              omega
          · obtain rfl := hget row' hr'
            refine ⟨by rw [hxl]; omega, .inr ⟨b, sh + off * row.sz, _, cap, by simp [Map.row], rfl, hfit, fun _ => by simp, ?_⟩⟩
            refine ⟨C', et, _, s3, ?_⟩
            show sh + off * row.sz + (0 + cap) * row.sz ≤ C'.size
            rw [s4, Nat.zero_add]
            rw [Nat.add_mul] at r2
            omega
        · by_cases hc0 : 0 < cap
          · obtain rfl := hA (.inl hc0)
            have hm2 : off * row.sz + len * row.sz ≤ row.xs.length * row.sz := by rw [← Nat.add_mul, hend]; exact Nat.le_refl _
            have hol : ((C.toList.drop (sh + off * row.sz)).take (len * row.sz)).length = len * row.sz := by
              simp only [List.length_take, List.length_drop, Array.length_toList]
              omega
            have hog : ∀ (j : Nat) (v : Value), ((C.toList.drop (sh + off * row.sz)).take (len * row.sz))[j]? = some v → j < len * row.sz ∧ C[sh + off * row.sz + j]? = some v := fun j v hv => by
              rw [List.getElem?_take] at hv
              split at hv
              · rename_i hj
                rw [List.getElem?_drop, Array.getElem?_toList] at hv
                exact ⟨hj, hv⟩
              · cases hv
            have holds : ∀ (j : Nat) (v : Value), ((C.toList.drop (sh + off * row.sz)).take (len * row.sz))[j]? = some v → w.cell? ((⟨b, sh + off * row.sz, none⟩ : Addr).add j) = some v := fun j v hv => by
              rw [addr_add, cell_of_row w b _ C et (0, 0) q2]
              exact (hog j v hv).2
            have hrun := run_append_grow (P := P) w t ty e i z ht hi hz ⟨b, sh + off * row.sz, none⟩ len cap _ (by rw [← hsz]; exact hol) holds ad ys.length c news hsrc.len (hsrc.cell ad rfl) (by omega) hbig (growslice_fits (by omega) hb)
            obtain ⟨g1, g2⟩ := fresh ((C.toList.drop (sh + off * row.sz)).take (len * row.sz)) cap (by omega) (by rw [← hsz]; exact hol) hdx (fun j k x y u hx hy hu => by
              rw [← hsz] at hu
              rw [List.getElem?_drop] at hx
              refine q4 _ k x y u hx hy ?_
              rw [← (hog _ _ hu).2]
              congr 1
              rw [Nat.add_mul]; omega)
            exact ⟨_, _, _, hrun, g1, g2⟩
          · obtain rfl : cap = 0 := by omega
            obtain rfl : len = 0 := by omega
            have hd0 : row.xs.drop off = [] := List.eq_nil_of_length_eq_zero hdl
            obtain ⟨g1, g2⟩ := fresh [] 0 (by omega) (by simp) (by rw [hd0]; simp) (by rw [hd0]; simp)
            cases A with
            | none =>
              have hrun := run_append_nil (P := P) w t ty e i z ht hi hz ad ys.length c news hsrc.len (hsrc.cell ad rfl) hpos (by omega) (by simp only [Nat.zero_add] at hb; omega)
              simp only [Nat.zero_add] at g1 g2 ⊢
              exact ⟨_, _, _, hrun, by simpa using g1, by simpa using g2⟩
            | some a0 =>
              have hrun := run_append_grow (P := P) w t ty e i z ht hi hz a0 0 0 [] (by simp) (by simp) ad ys.length c news hsrc.len (hsrc.cell ad rfl) (by omega) hbig (growslice_fits (by omega) hb)
              exact ⟨_, _, _, hrun, g1, g2⟩
end Go.Aw

namespace Go.Aw
open Go.RowKit
variable {P : Program}

theorem constV_cells (z : Value) : (constV z).cells.length = z.cells.size ∧ ∀ {E : Env} {w : World} {μ : Map} {σ : St} (k : Nat) (y : V) (u : Value), (constV z).cells[k]? = some y → z.cells[k]? = some u → RelV E w μ σ y u := by
  unfold constV
  split
  · refine ⟨rfl, fun k y u hy hu => ?_⟩
    cases k with
    | zero => simp [V.cells, Value.cells] at hy hu; subst hy; subst hu; exact rfl
    | succ k => simp [V.cells] at hy
  · rename_i us
    refine ⟨by simp [V.cells, Value.cells], fun k y u hy hu => ?_⟩
    simp only [V.cells, Value.cells, List.getElem?_map] at hy hu
    rw [← Array.getElem?_toList] at hu
    rw [hu] at hy
    simp at hy
    subst hy
    exact .c u
  · rename_i hn1 hn2
    have hc : z.cells = #[z] := by
      cases z <;> first | rfl | exact absurd rfl (hn2 _)
    rw [hc]
    refine ⟨rfl, fun k y u hy hu => ?_⟩
    cases k with
    | zero => simp [V.cells] at hy hu; subst hy; subst hu; exact .c _
    | succ k => simp [V.cells] at hy

/-- Values laid side by side. -/
theorem fill_all {sz : Nat} : ∀ (vs : List Value) (i0 : Nat) (cells : Array Value), (∀ v ∈ vs, v.cells.size = sz) → (i0 + vs.length) * sz ≤ cells.size →
    ∃ C, Instr.fill (fun i => some (i * sz, sz)) cells ((vs.zipIdx i0).map fun x => (x.2, x.1)) = some C ∧ C.size = cells.size ∧ (∀ j, j < i0 * sz → C[j]? = cells[j]?) ∧
      ∀ (i k : Nat) (v u : Value), vs[i]? = some v → k < sz → C[(i0 + i) * sz + k]? = some u → v.cells[k]? = some u := by
  intro vs
  induction vs with
  | nil => intro i0 cells _ _; exact ⟨cells, rfl, rfl, fun _ _ => rfl, fun i k v u hv => by simp at hv⟩
  | cons v vs ih =>
    intro i0 cells hs hle
    simp only [List.length_cons] at hle
    have hv := hs v (by simp)
    have hm : (i0 + 1) * sz ≤ (i0 + (vs.length + 1)) * sz := Nat.mul_le_mul_right _ (by omega)
    have hm' : (i0 + 1) * sz = i0 * sz + sz := by rw [Nat.add_mul, Nat.one_mul]
    have hz : ∀ (j : Nat) (x : Value × Nat), v.cells.zipIdx.toList[j]? = some x → x.2 = 0 + j ∧ v.cells[j]? = some x.1 := fun j x hx => by
      rw [Array.getElem?_toList, Array.getElem?_zipIdx] at hx
      cases hA : v.cells[j]? with
      | none => simp [hA] at hx
      | some y => simp [hA] at hx; subst hx; simp
    obtain ⟨s1, g1⟩ := foldl_set_get v.cells.zipIdx.toList (i0 * sz) cells 0 (fun j x hx => (hz j x hx).1) (by simp [hv]; omega)
    have hl0 : v.cells.zipIdx.toList.length = sz := by simp [hv]
    obtain ⟨C, h1, h2, h3, h4⟩ := ih (i0 + 1) (List.foldl (fun cs (x : Value × Nat) => cs.setIfInBounds (i0 * sz + x.2) x.1) cells v.cells.zipIdx.toList) (fun u hu => hs u (by simp [hu])) (by rw [s1, show i0 + 1 + vs.length = i0 + (vs.length + 1) by omega]; exact hle)
    refine ⟨C, ?_, by rw [h2, s1], fun j hj => ?_, fun i k v' u hv' hk hu => ?_⟩
    · simp only [List.zipIdx_cons, List.map_cons, Instr.fill]
      rw [if_neg (by simp [hv]; omega), ← Array.foldl_toList]
      exact h1
    · rw [h3 j (by omega), g1, if_neg (by omega)]
    · cases i with
      | zero =>
        simp at hv'
        subst hv'
        rw [Nat.add_zero] at hu
        rw [h3 _ (by omega), g1, hl0, if_pos (by omega)] at hu
        have e : i0 * sz + k - (i0 * sz + 0) = k := by omega
        rw [e] at hu
        simpa using hu
      | succ i =>
        simp at hv'
        refine h4 i k v' u hv' hk ?_
        rw [← hu]
        congr 3
        omega

/-- All parts are data. -/
def allD (σ : St) : List Operand → (List D → Prop) → Prop
  | [], k => k []
  | x :: xs, k => dK (σ.eval x) fun d => allD σ xs fun ds => k (d :: ds)

theorem allD_inv {E : Env} {w : World} {μ : Map} {σ : St} {a : Act} (hev : ∀ x, RelV E w μ σ (σ.eval x) (a.eval x)) : ∀ (xs : List Operand) (k : List D → Prop), allD σ xs k →
    ∃ ds, k ds ∧ ds.length = xs.length ∧ ∀ (i : Nat) (d : D), ds[i]? = some d → ∃ v, (xs.map a.eval)[i]? = some v ∧ RelD w (Fz E w μ σ) d v := by
  intro xs
  induction xs with
  | nil => intro k h; exact ⟨[], h, rfl, fun i d hd => by simp at hd⟩
  | cons x xs ih =>
    intro k h
    obtain ⟨d, hd, h⟩ := dK_inv h (hev x)
    obtain ⟨ds, hk, hl, hg⟩ := ih _ h
    refine ⟨d :: ds, hk, by simp [hl], fun i d' hd' => ?_⟩
    cases i with
    | zero => simp at hd'; subst hd'; exact ⟨_, rfl, hd⟩
    | succ i => simp at hd'; simpa using hg i d' hd'

/-- The parts of a slice's literal stand in their order. -/
def inOrder (ps : List (Nat × Operand)) (len : Nat) : Bool := ps.map (·.1) == List.range len

def bsK (P : Program) (t : TypeId) (len : Nat) (ps : List (Nat × Operand)) (σ : St) (k : Nat → List D → Prop) : Prop :=
  slK P t fun e => tyK P e fun _ n => zbK P e fun z _ => (inOrder ps len = true ∧ 0 < n ∧ z.cells.size = n ∧ len * n ≤ 16777216) ∧
    allD σ (ps.map (·.2)) fun ds => (∀ x ∈ ds, x.cells.length = n ∧ x.cells.all D.one = true) ∧ k n ds

theorem zip_order {ps : List (Nat × Operand)} {len : Nat} (h : inOrder ps len = true) : ps = ((ps.map (·.2)).zipIdx 0).map fun x => (x.2, x.1) := by
  have h' : ps.map (·.1) = List.range len := by simpa [inOrder] using h
  apply List.ext_getElem?
  intro i
  rw [List.getElem?_map, List.getElem?_zipIdx, List.getElem?_map]
  cases hx : ps[i]? with
  | none => simp
  | some p =>
    have h2 := congrArg (·[i]?) h'
    have hi : i < ps.length := (List.getElem?_eq_some_iff.1 hx).1
    have hlen : ps.length = len := by have := congrArg List.length h'; simpa using this
    simp only [List.getElem?_map, hx, Option.map_some] at h2
    rw [List.getElem?_range (by omega)] at h2
    simp at h2
    simp [← h2]

theorem buildSlice_sound {t : TypeId} {len : Nat} {ps : List (Nat × Operand)} {σ : St} {k : Nat → List D → Prop} (h : bsK P t len ps σ k) {E : Env} {w : World} {μ : Map} {a : Act} (hev : ∀ x, RelV E w μ σ (σ.eval x) (a.eval x)) :
    ∃ n ds C e, k n ds ∧ ds.length = len ∧ 0 < n ∧ (∀ x ∈ ds, x.cells.length = n) ∧ C.size = len * n ∧ (Instr.buildSlice t len (ps.map fun p => (p.1, a.eval p.2)).toArray).run P w = .ok (.slice (some ⟨w.heap.size, 0, none⟩) len len) (w.alloc (.cells C e)) ∧
      ∀ (i k : Nat) (x y : D) (u : Value), ds[i]? = some x → x.cells[k]? = some y → C[i * n + k]? = some u → RelD w (Fz E w μ σ) y u := by
  obtain ⟨e, he, g, n, hg, z, b, hzb, ⟨ho, hn, hz, hlim⟩, h⟩ := h
  obtain ⟨ds, ⟨hds, hk⟩, hl, hget⟩ := allD_inv (a := a) hev _ _ h
  obtain ⟨i, hi, hiz, _, his⟩ := zb_inv hzb hg
  have hlen : ps.length = len := by
    have h' : ps.map (·.1) = List.range len := by simpa [inOrder] using ho
    have := congrArg List.length h'; simpa using this
  let vs := (ps.map (·.2)).map a.eval
  have hvl : vs.length = len := by simp [vs, hlen]
  have hdl : ds.length = len := by rw [hl]; simp [hlen]
  have hvs : ∀ v ∈ vs, v.cells.size = n := fun v hv => by
    obtain ⟨j, hj⟩ := List.getElem?_of_mem hv
    have hjl : j < ds.length := by rw [hdl, ← hvl]; exact (List.getElem?_eq_some_iff.1 hj).1
    obtain ⟨v', hv', hr⟩ := hget j _ (List.getElem?_eq_getElem hjl)
    rw [hj] at hv'
    cases hv'
    have hd := hds _ (List.getElem_mem hjl)
    rw [(cells_rel hr hd.2).1, hd.1]
  obtain ⟨C, f1, f2, _, f4⟩ := fill_all vs 0 ((Array.range (len * n)).map (z.cells[· % z.cells.size]!)) hvs (by simp [hvl])
  have hps : (ps.map fun p => (p.1, a.eval p.2)) = (vs.zipIdx 0).map fun x => (x.2, x.1) := by
    conv => lhs; rw [zip_order ho]
    simp only [List.map_map, vs, List.zipIdx_map]
    rfl
  refine ⟨n, ds, C, e, hk, hdl, hn, fun x hx => (hds x hx).1, by rw [f2]; simp, ?_, fun j k x y u hx hy hu => ?_⟩
  · have hlim' : ¬ (len * n > 2 ^ 24) := by omega
    have hzr : (zeroValue e).run P w = .ok z w := by simp [zeroValue, typeInfo, hi, hiz]
    simp only [Instr.buildSlice, Sem.run_bind, run_und_sl he, run_sizeOf_ty hg, Result.andThen_ok, hps]
    rw [if_neg hlim']
    by_cases h0 : len * n = 0
    · have hcells : (Array.range (len * n)).map ((#[] : Array Value)[· % (#[] : Array Value).size]!) = (Array.range (len * n)).map (z.cells[· % z.cells.size]!) := by
        rw [h0]; exact Array.ext (by simp) (fun i h1 h2 => by simp at h1)
      rw [if_pos h0]
      simp only [Sem.run_bind, Sem.run_pure, Result.andThen_ok, hcells, f1, newRow, run_newObj]
      rfl
    · rw [if_neg h0]
      simp only [Sem.run_bind, hzr, Sem.run_pure, Result.andThen_ok, f1, newRow, run_newObj]
      rfl
  · obtain ⟨v, hv, hr⟩ := hget j x hx
    have hd := hds x (List.mem_of_getElem? hx)
    have hk' : k < n := by rw [← hd.1]; exact (List.getElem?_eq_some_iff.1 hy).1
    exact ((cells_rel hr hd.2).2 k y u hy (f4 j k v u hv hk' (by rw [Nat.zero_add]; exact hu))).1
end Go.Aw

namespace Go.Aw
open Go.RowKit
variable {P : Program}

/-- An operation that gives v and leaves the state as it is (new memory of its own aside). -/
def Quiet (P : Program) (o : Oper) (σ : St) (v : V) : Prop :=
  ∀ (E : Env) (μ : Map) (a : Act) (w : World) (K : Act → World → Prop) (Q : Exit → Act → World → Prop), EOK P E → Rel E σ μ a w →
    (∀ u w', Stp (fun _ => False) w w' → RelV E w' μ σ v u → K (a.put o.dst u) w') → o.wpIn (FW E.ro) 0 P a w K Q

/-- An operation behind which the state is one of K's. -/
def Loud (P : Program) (o : Oper) (σ : St) (K : St → Prop) : Prop :=
  ∀ (E : Env) (a : Act) (w : World) (K' : Act → World → Prop) (Q : Exit → Act → World → Prop), EOK P E → RelS E σ a w →
    (∀ σ' a' w', K σ' → RelS E σ' a' w' → K' a' w') → o.wpIn (FW E.ro) 0 P a w K' Q

theorem Quiet.loud {o : Oper} {σ : St} {v : V} (h : Quiet P o σ v) {K : St → Prop} (hK : K (σ.put o.dst v)) : Loud P o σ K := by
  rintro E a w K' Q he ⟨μ, hr⟩ hk
  exact h E μ a w K' Q he hr (fun u w' hs hu => hk _ _ _ hK ⟨μ, (hr.later hs).put o.dst (by cases o.dst <;> exact hu)⟩)

theorem wpIn_of_run {ro : Option Nat} {o : Oper} {a : Act} {w w' : World} {u : Value} {K : Act → World → Prop} {Q : Exit → Act → World → Prop} (hd : ∀ c, o.op ≠ .defer c) (h : (execOp a.eval o).run P w = .ok (.value u) w') (hK : K (a.put o.dst u) w') : o.wpIn (FW ro) 0 P a w K Q := by
  refine ⟨fun _ _ => trivial, ?_⟩
  rw [Oper.semAt_eq _ _ _ hd, h]
  exact hK
theorem wpIn_of_skip {ro : Option Nat} {o : Oper} {a : Act} {w w' : World} {K : Act → World → Prop} {Q : Exit → Act → World → Prop} (hd : ∀ c, o.op ≠ .defer c) (h : (execOp a.eval o).run P w = .ok .skip w') (hK : K (a.put o.dst undef) w') : o.wpIn (FW ro) 0 P a w K Q := by
  refine ⟨fun _ _ => trivial, ?_⟩
  rw [Oper.semAt_eq _ _ _ hd, h]
  exact hK

/-- What is computed is one value. -/
def Det (F : (V → Prop) → Prop) : Prop := ∀ C, F C → ∃ v, C v ∧ F (fun x => x = v)

theorem quiet_of_ev {o : Oper} {σ : St} {v : V} (h : evE P o.op σ (fun x => x = v)) : Quiet P o σ v := by
  intro E μ a w K Q he hr hk
  obtain ⟨x, u, rfl, h1, h2, h3⟩ := evE_sound h hr
  exact wpIn_of_run h3 h1 (hk u w (Stp.refl _ w) h2)

theorem nthK_mk {α : Type} {xs : List α} {i : Nat} {y : α} {k : α → Prop} (h : xs[i]? = some y) (hk : k y) : nthK xs i k := by
  induction xs generalizing i with
  | nil => simp at h
  | cons x xs ih => cases i with
    | zero => simp at h; subst h; exact hk
    | succ i => exact ih (by simpa using h)
theorem rwK_mk {σ : St} {r : Nat} {row : Row} {k : Row → Prop} (h : σ.rw[r]? = some (some row)) (hk : k row) : rwK σ r k := by
  unfold rwK
  rw [List.getD_eq_getElem?_getD, h]
  exact hk

theorem det_ld {t : TypeId} {σ : St} {x : V} : Det (ldK P t σ x) := by
  intro C h
  unfold ldK at h ⊢
  split at h
  · obtain ⟨g, n, ht, h⟩ := h
    cases g with
    | true => exact ⟨_, h.2, true, n, ht, h.1, rfl⟩
    | false =>
      obtain ⟨y, ys, rfl, hC⟩ := hdK_inv h
      exact ⟨_, hC, false, n, ht, rfl⟩
  · rename_i b sub
    obtain ⟨g, n, ht, h⟩ := h
    cases g with
    | true =>
      dsimp only at h
      generalize hz : σ.bx.getD b .j = z at h
      split at h
      · split at h
        · rename_i h0
          exact ⟨_, h.2, true, n, ht, by simp [h0]; exact h.1⟩
        · rename_i h0
          exact ⟨_, h.2, true, n, ht, by simp [h0]; exact h.1⟩
      · exact h.elim
    | false =>
      obtain ⟨z, hz, hC⟩ := nthK_inv h
      exact ⟨z, hC, false, n, ht, nthK_mk hz rfl⟩
  · rename_i r i sub
    obtain ⟨row, hrow, g, n, ht, h⟩ := rwK_inv h
    cases g with
    | true =>
      obtain ⟨h0, hn, x, hx, h⟩ := h
      split at h
      · exact ⟨_, h, rwK_mk hrow ⟨true, n, ht, h0, hn, _, hx, rfl⟩⟩
      · exact h.elim
    | false =>
      obtain ⟨x, hx, h⟩ := h
      obtain ⟨y, hy, hC⟩ := nthK_inv h
      exact ⟨.d y, hC, rwK_mk hrow ⟨false, n, ht, x, hx, nthK_mk hy rfl⟩⟩
  · exact h.elim

theorem det_nth {α : Type} {xs : List α} {i : Nat} {f : α → V} : Det (fun C => nthK xs i fun y => C (f y)) := by
  intro C h
  induction xs generalizing i with
  | nil => exact h.elim
  | cons x xs ih => cases i with
    | zero => exact ⟨_, h, rfl⟩
    | succ i => exact ih h

theorem det_binI {op : BinOp} {k : IntKind} {a b : Int} : Det (binI op k a b) := by
  intro C h
  cases op <;> simp only [binI] at h ⊢ <;> first | exact h.elim | exact ⟨_, h.2, h.1, rfl⟩ | exact ⟨_, h, rfl⟩

theorem det_bin {op : BinOp} {t : TypeId} {ox oy : Operand} {x y : V} : Det (binE P op t ox oy x y) := by
  intro C h
  unfold binE at h ⊢
  split at h
  · unfold binC at h ⊢
    split at h
    · obtain ⟨v, hv, h2⟩ := det_binI _ h.2
      exact ⟨v, hv, h.1, h2⟩
    · rename_i hne
      obtain ⟨r, hr, hC⟩ := h
      exact ⟨_, hC, r, hr, rfl⟩
  · unfold bin2 at h ⊢
    split at h
    · obtain ⟨r, hr, hC⟩ := h
      exact ⟨_, hC, r, hr, rfl⟩
    · exact h.elim
  · exact h.elim

theorem evE_det {op : Op} {σ : St} : Det (evE P op σ) := by
  intro C h
  cases op <;> simp only [evE] at h ⊢ <;> first | exact h.elim | exact ⟨_, h, rfl⟩ | exact det_ld _ h | exact det_bin _ h | skip
  case pick c a b =>
    unfold bK at h ⊢
    split at h
    · rename_i t heq
      cases t with
      | true => exact ⟨_, h.1 rfl, fun _ => rfl, fun e => by cases e⟩
      | false => exact ⟨_, h.2 rfl, fun e => (by cases e), fun _ => rfl⟩
    · exact h.elim
  case unOp op t x =>
    cases op <;> simp only at h ⊢ <;> first | exact h.elim | skip
    unfold bK at h ⊢
    split at h
    · exact ⟨_, h, rfl⟩
    · exact h.elim
  case fieldAddr t x f =>
    obtain ⟨o, n, hf, hn, h⟩ := h
    generalize σ.eval x = v at h ⊢
    split at h
    · exact ⟨_, h, o, n, hf, hn, rfl⟩
    · exact ⟨_, h, o, n, hf, hn, rfl⟩
    · obtain ⟨row, hrow, h⟩ := rwK_inv h
      refine ⟨_, h, o, n, hf, hn, ?_⟩
      simp only [rwK, List.getD_eq_getElem?_getD, hrow, Option.getD_some]
    · exact h.elim
  case indexAddr t x i =>
    unfold iK at h ⊢
    split at h
    · rename_i q n heq
      unfold iaK at h ⊢
      generalize σ.eval x = v at h ⊢
      split at h
      · obtain ⟨h0, e, he, y, hy, hg, hC⟩ := h
        exact ⟨_, hC, h0, e, he, y, hy, hg, rfl⟩
      · obtain ⟨h0, e, he, h⟩ := h
        obtain ⟨row, hrow, hg, hC⟩ := rwK_inv h
        refine ⟨_, hC, h0, e, he, ?_⟩
        simp only [rwK, List.getD_eq_getElem?_getD, hrow, Option.getD_some]
        exact ⟨hg, trivial⟩
      · obtain ⟨r, off, len, hm, h0, e, he, h⟩ := h
        obtain ⟨row, hrow, hg, hC⟩ := rwK_inv h
        refine ⟨_, hC, r, off, len, hm, h0, e, he, ?_⟩
        simp only [rwK, List.getD_eq_getElem?_getD, hrow, Option.getD_some]
        exact ⟨hg, trivial⟩
      · exact h.elim
    · exact h.elim
  case index t x i =>
    unfold iK dK at h ⊢
    split at h
    · generalize σ.eval x = v at h ⊢
      split at h
      · rename_i dx
        split at h
        · obtain ⟨h0, m, e, har, hlt, g, s, hty, hg, hs, y, hy, hC⟩ := h
          exact ⟨_, hC, h0, m, e, har, hlt, g, s, hty, hg, hs, y, hy, rfl⟩
        · exact h.elim
      · exact h.elim
      · exact h.elim
    · exact h.elim
  case extract x n =>
    unfold dK at h ⊢
    generalize σ.eval x = v at h ⊢
    split at h
    · split at h
      · exact det_nth (f := V.d) _ h
      · exact h.elim
    · exact h.elim
    · exact h.elim
  case makeInterface t x =>
    unfold dK at h ⊢
    generalize σ.eval x = v at h ⊢
    split at h
    · split at h
      · exact ⟨_, h.2, h.1, rfl⟩
      · exact h.elim
    · exact h.elim
    · exact h.elim
  case makeFunc fn first caps =>
    obtain ⟨hf, h⟩ := h
    have : ∀ (l : List V) (f : List Nat → V), Det (fun C => capsK l fun bs => C (f bs)) := by
      intro l
      induction l with
      | nil => intro f C h; exact ⟨_, h, rfl⟩
      | cons x l ih =>
        intro f C h
        unfold capsK at h ⊢
        split at h
        · rename_i heq; cases heq
        · rename_i b rest heq
          simp only [List.cons.injEq] at heq
          obtain ⟨rfl, rfl⟩ := heq
          exact ih (fun bs => f (b :: bs)) C h
        · exact h.elim
    obtain ⟨v, hv, h2⟩ := this _ (fun bs => V.fp fn bs) C h
    exact ⟨v, hv, hf, h2⟩
  case slice t x lo hi mx =>
    have ho : ∀ (x : Option Operand) (F : Option Int → (V → Prop) → Prop), (∀ r, Det (F r)) → Det (fun C => optI σ x fun r => F r C) := by
      intro x F hF C h
      cases x with
      | none => exact hF none C h
      | some x =>
        unfold optI iK at h ⊢
        simp only at h ⊢
        split at h
        · exact hF _ C h
        · exact h.elim
    cases mx with
    | some m =>
      refine ho lo (fun lo C => optI σ hi fun hi => iK (σ.eval m) fun _ m => sl3K P t (σ.eval x) lo hi m C) (fun lo' => ho hi (fun hi C => iK (σ.eval m) fun _ m => sl3K P t (σ.eval x) lo' hi m C) (fun hi' C h => ?_)) C h
      unfold iK at h ⊢
      generalize σ.eval m = v at h ⊢
      split at h
      · unfold sl3K at h ⊢
        generalize σ.eval x = v at h ⊢
        split at h
        · obtain ⟨h1, e, he, g, n, hg, hC⟩ := h
          exact ⟨_, hC, h1, e, he, g, n, hg, rfl⟩
        · exact h.elim
      · exact h.elim
    | none =>
      refine ho lo (fun lo C => optI σ hi fun hi => sliK P t σ (σ.eval x) lo hi C) (fun lo' => ho hi (fun hi C => sliK P t σ (σ.eval x) lo' hi C) (fun hi' C h => ?_)) C h
      unfold sliK at h ⊢
      generalize σ.eval x = v at h ⊢
      split at h
      · obtain ⟨h1, h2, e, he, g, n, hg, hC⟩ := h
        exact ⟨_, hC, h1, h2, e, he, g, n, hg, rfl⟩
      · obtain ⟨h1, e, he, hg, hC⟩ := h
        exact ⟨_, hC, h1, e, he, hg, rfl⟩
      · obtain ⟨h1, e, he, g, n, hg, hr, hC⟩ := h
        exact ⟨_, hC, h1, e, he, g, n, hg, hr, rfl⟩
      · exact h.elim
  case build t ps =>
    unfold bldE dK at h ⊢
    split at h
    · obtain ⟨h1, h2, h⟩ := h
      split at h
      · split at h
        · exact ⟨_, h.2, h1, h2, by simp_all⟩
        · exact ⟨_, h.2, h1, h2, by simp_all⟩
        · exact h.elim
      · split at h
        · exact ⟨_, h.2, h1, h2, by simp_all⟩
        · exact ⟨_, h.2, h1, h2, by simp_all⟩
        · exact h.elim
      · exact h.elim
    · exact h.elim
  case call c =>
    split at h
    · rename_i b
      unfold buE at h ⊢
      split at h
      · split at h
        · obtain ⟨e, he, h⟩ := h
          unfold lenK at h ⊢
          generalize σ.eval _ = v at h ⊢
          split at h
          · exact ⟨_, h, e, he, rfl⟩
          · exact ⟨_, h, e, he, rfl⟩
          · obtain ⟨row, hrow, h⟩ := rwK_inv h
            refine ⟨_, h, e, he, ?_⟩
            simp only [rwK, List.getD_eq_getElem?_getD, hrow, Option.getD_some]
          · exact h.elim
        · exact h.elim
      · split at h
        · unfold iK at h ⊢
          split at h
          · split at h
            · exact ⟨_, h.2, h.1, rfl⟩
            · exact h.elim
          · exact h.elim
        · exact h.elim
      · split at h
        · unfold iK at h ⊢
          split at h
          · split at h
            · exact ⟨_, h.2, h.1, rfl⟩
            · exact h.elim
          · exact h.elim
        · exact h.elim
      · exact h.elim
    · exact h.elim
end Go.Aw

namespace Go.Aw
open Go.RowKit
variable {P : Program}

def usesT (o : Oper) (t : Tmp) : Bool := o.op.operands.any fun x => match x with | .tmp u => u == t | _ => false

def St.mask (σ : St) (o : Oper) : St := { σ with tm := σ.tm.mapIdx fun t x => if usesT o t then x else .j }

theorem mask_eval {σ : St} {o : Oper} {x : Operand} (hx : x ∈ o.op.operands) : (σ.mask o).eval x = σ.eval x := by
  cases x with
  | tmp t =>
    have hu : usesT o t = true := by
      unfold usesT
      rw [Array.any_eq_true']
      exact ⟨_, hx, by simp⟩
    simp only [St.eval, St.mask, List.getD_eq_getElem?_getD, List.getElem?_mapIdx]
    cases σ.tm[t]? <;> simp [hu]
  | _ => rfl

theorem Rel.weak {E : Env} {σ : St} {μ : Map} {a : Act} {w : World} (h : Rel E σ μ a w) {T : List V} (hl : T.length = σ.tm.length) (hT : ∀ (k : Nat) (x : V), T[k]? = some x → x = .j ∨ σ.tm[k]? = some x) : Rel E { σ with tm := T } μ a w :=
  ⟨h.stp, h.own, ⟨h.mem.bb, h.mem.br, h.mem.rr, h.mem.box, h.mem.row⟩, ⟨by rw [h.tm.1]; exact hl.symm, fun k x u hx hu => by
    rcases hT k x hx with rfl | hx'
    · trivial
    · exact h.tm.2 k x u hx' hu⟩, h.marks, h.gh, h.pin, h.fx⟩

theorem Rel.mask {E : Env} {σ : St} {μ : Map} {a : Act} {w : World} (h : Rel E σ μ a w) (o : Oper) : Rel E (σ.mask o) μ a w :=
  h.weak (by simp) fun k x hx => by
    rw [List.getElem?_mapIdx] at hx
    cases hy : σ.tm[k]? with
    | none => simp [hy] at hx
    | some y =>
      simp [hy] at hx
      split at hx
      · exact .inr (by rw [hx])
      · exact .inl hx.symm

theorem allD_congr {σ : St} {T : List V} : ∀ (xs : List Operand) (k : List D → Prop), (∀ x ∈ xs, St.eval { σ with tm := T } x = σ.eval x) → allD σ xs k → allD { σ with tm := T } xs k := by
  intro xs
  induction xs with
  | nil => intro k _ h; exact h
  | cons x xs ih =>
    intro k hx h
    unfold allD at h ⊢
    rw [hx x (by simp)]
    unfold dK at h ⊢
    split at h
    · exact ih _ (fun y hy => hx y (by simp [hy])) h
    · exact ih _ (fun y hy => hx y (by simp [hy])) h
    · exact h.elim

theorem evE_congr {op : Op} {σ : St} {T : List V} {C : V → Prop} (hx : ∀ x ∈ op.operands, St.eval { σ with tm := T } x = σ.eval x) (h : evE P op σ C) : evE P op { σ with tm := T } C := by
  cases op <;> simp only [evE] at h ⊢ <;> first | exact h.elim | skip
  case move x => rw [hx x (by simp [Op.operands])]; exact h
  case assign x => rw [hx x (by simp [Op.operands])]; exact h
  case pick c a b => rw [hx c (by simp [Op.operands]), hx a (by simp [Op.operands]), hx b (by simp [Op.operands])]; exact h
  case load t a => rw [hx a (by simp [Op.operands])]; exact h
  case binOp op t x y yt => rw [hx x (by simp [Op.operands]), hx y (by simp [Op.operands])]; exact h
  case unOp op t x =>
    rw [hx x (by simp [Op.operands])]; exact h
  case fieldAddr t x f => rw [hx x (by simp [Op.operands])]; exact h
  case indexAddr t x i => rw [hx x (by simp [Op.operands]), hx i (by simp [Op.operands])]; exact h
  case index t x i => rw [hx x (by simp [Op.operands]), hx i (by simp [Op.operands])]; exact h
  case extract x n => rw [hx x (by simp [Op.operands])]; exact h
  case makeInterface t x => rw [hx x (by simp [Op.operands])]; exact h
  case makeFunc fn first caps =>
    refine ⟨h.1, ?_⟩
    have : caps.toList.map (St.eval { σ with tm := T }) = caps.toList.map σ.eval := List.map_congr_left fun x hm => hx x (by simp [Op.operands]; exact .inr (by simpa using hm))
    rw [this]
    exact h.2
  case slice t x lo hi mx =>
    cases mx with
    | some m =>
      have ho : ∀ (y : Option Operand), (∀ z, y = some z → St.eval { σ with tm := T } z = σ.eval z) → ∀ k k' : Option Int → Prop, (∀ r, k r → k' r) → optI σ y k → optI { σ with tm := T } y k' := by
        intro y hy k k' hkk h
        cases y with
        | none => exact hkk _ h
        | some z =>
          unfold optI iK at h ⊢
          simp only at h ⊢
          rw [hy z rfl]
          split at h
          · exact hkk _ h
          · exact h.elim
      refine ho lo (fun z e => hx z (by subst e; simp [Op.operands])) _ _ (fun lo' h => ?_) h
      refine ho hi (fun z e => hx z (by subst e; simp [Op.operands])) _ _ (fun hi' h => ?_) h
      rw [hx x (by simp [Op.operands]), hx m (by simp [Op.operands])]
      exact h
    | none =>
      have ho : ∀ (y : Option Operand), (∀ z, y = some z → St.eval { σ with tm := T } z = σ.eval z) → ∀ k, optI σ y k → optI { σ with tm := T } y k := by
        intro y hy k h
        cases y with
        | none => exact h
        | some z => unfold optI at h ⊢; simp only at h ⊢; rw [hy z rfl]; exact h
      have hl : ∀ z, lo = some z → St.eval { σ with tm := T } z = σ.eval z := fun z e => hx z (by subst e; simp [Op.operands])
      have hh : ∀ z, hi = some z → St.eval { σ with tm := T } z = σ.eval z := fun z e => hx z (by subst e; simp [Op.operands])
      rw [hx x (by simp [Op.operands])]
      have h1 := ho lo hl _ h
      cases lo with
      | none => exact ho hi hh _ h1
      | some z =>
        unfold optI iK at h1 ⊢
        simp only at h1 ⊢
        split at h1
        · have h2 := ho hi hh _ h1
          cases hi with
          | none => exact h2
          | some y => exact h2
        · exact h1.elim
  case build t ps =>
    unfold bldE at h ⊢
    split at h
    · rename_i i x j y heq
      have h1 : St.eval { σ with tm := T } x = σ.eval x := hx x (by simp [Op.operands, heq])
      have h2 : St.eval { σ with tm := T } y = σ.eval y := hx y (by simp [Op.operands, heq])
      refine ⟨h.1, h.2.1, ?_⟩
      rw [h1, h2]
      exact h.2.2
    · exact h.elim
  case call c =>
    obtain ⟨callee, ⟨args⟩, ts⟩ := c
    simp only at h ⊢
    split at h
    · rename_i b
      have ha : ∀ x ∈ args, St.eval { σ with tm := T } x = σ.eval x := fun x hm => hx x (by simp [Op.operands, Call.operands, hm])
      unfold buE at h ⊢
      split at h
      · split at h
        · obtain ⟨e, he, h⟩ := h
          refine ⟨e, he, ?_⟩
          rw [ha _ (by simp)]
          exact h
        · exact h.elim
      · split at h
        · rw [ha _ (by simp), ha _ (by simp)]
          exact h
        · exact h.elim
      · split at h
        · rw [ha _ (by simp), ha _ (by simp)]
          exact h
        · exact h.elim
      · exact h.elim
    · exact h.elim

theorem evE_mask {o : Oper} {σ : St} {C : V → Prop} (h : evE P o.op σ C) : evE P o.op (σ.mask o) C :=
  evE_congr (fun _ hx => mask_eval hx) h

/-- The states σ and τ agree on what o uses. -/
theorem mask_eq {σ : St} {T T' : List V} {o : Oper} (hl : T.length = T'.length) (h : ∀ t, usesT o t = true → T[t]? = T'[t]?) : St.mask { σ with tm := T } o = St.mask { σ with tm := T' } o := by
  unfold St.mask
  congr 1
  apply List.ext_getElem?
  intro t
  rw [List.getElem?_mapIdx, List.getElem?_mapIdx]
  by_cases hu : usesT o t = true
  · rw [h t hu]
  · have : T[t]?.isSome = T'[t]?.isSome := by
      by_cases hb : t < T.length
      · simp [hb, ← hl]
      · simp [hb, ← hl]
    cases h1 : T[t]? <;> cases h2 : T'[t]? <;> simp_all

def isLoud : Op → Bool
  | .store .. => true
  | .alloc _ => true
  | .box .. => true
  | .makeSlice .. => true
  | .call c => match c.callee with
    | .builtin .append => true
    | _ => false
  | _ => false

def awQC (P : Program) (o : Oper) (σ : St) (C : V → Prop) : Prop := ∃ v, Quiet P o (σ.mask o) v ∧ C v

def awQ (P : Program) (o : Oper) (σ : St) (C : V → Prop) : Prop :=
  match o.op with
  | .call c => match c.callee with
    | .builtin _ => evE P o.op σ C
    | _ => awQC P o σ C
  | .buildSlice t len ps => bsK P t len ps.toList σ fun _ ds => C (.d (.l ds))
  | op => evE P op σ C

theorem buildSlice_quiet {o : Oper} {σ : St} {t : TypeId} {len : Nat} {ps : Array (Nat × Operand)} (ho : o.op = .buildSlice t len ps) {k : Nat → List D → Prop} (h : bsK P t len ps.toList σ k) : ∃ n ds, k n ds ∧ Quiet P o σ (.d (.l ds)) := by
  have hd : ∃ n ds, k n ds ∧ bsK P t len ps.toList σ (fun n' ds' => n' = n ∧ ds' = ds) := by
    obtain ⟨e, he, g, n, hg, z, b, hzb, h1, h⟩ := h
    have : ∀ (xs : List Operand) (f : List D → Prop), allD σ xs f → ∃ ds, f ds ∧ allD σ xs (fun ds' => ds' = ds) := by
      intro xs
      induction xs with
      | nil => intro f h; exact ⟨[], h, rfl⟩
      | cons x xs ih =>
        intro f h
        unfold allD dK at h ⊢
        split at h
        · obtain ⟨ds, h2, h3⟩ := ih _ h
          exact ⟨_, h2, by
            have : ∀ (ys : List Operand) (f g : List D → Prop), (∀ ds, f ds → g ds) → allD σ ys f → allD σ ys g := by
              intro ys
              induction ys with
              | nil => intro f g hfg h; exact hfg _ h
              | cons y ys ih =>
                intro f g hfg h
                unfold allD dK at h ⊢
                split at h
                · exact ih _ _ (fun ds h => hfg _ h) h
                · exact ih _ _ (fun ds h => hfg _ h) h
                · exact h.elim
            exact this _ _ _ (fun ds' e => by rw [e]) h3⟩
        · obtain ⟨ds, h2, h3⟩ := ih _ h
          exact ⟨_, h2, by
            have : ∀ (ys : List Operand) (f g : List D → Prop), (∀ ds, f ds → g ds) → allD σ ys f → allD σ ys g := by
              intro ys
              induction ys with
              | nil => intro f g hfg h; exact hfg _ h
              | cons y ys ih =>
                intro f g hfg h
                unfold allD dK at h ⊢
                split at h
                · exact ih _ _ (fun ds h => hfg _ h) h
                · exact ih _ _ (fun ds h => hfg _ h) h
                · exact h.elim
            exact this _ _ _ (fun ds' e => by rw [e]) h3⟩
        · exact h.elim
    obtain ⟨ds, ⟨h2, h3⟩, h4⟩ := this _ _ h
    refine ⟨n, ds, h3, e, he, g, n, hg, z, b, hzb, h1, ?_⟩
    have mono : ∀ (ys : List Operand) (f g : List D → Prop), (∀ ds, f ds → g ds) → allD σ ys f → allD σ ys g := by
      intro ys
      induction ys with
      | nil => intro f g hfg h; exact hfg _ h
      | cons y ys ih =>
        intro f g hfg h
        unfold allD dK at h ⊢
        split at h
        · exact ih _ _ (fun ds h => hfg _ h) h
        · exact ih _ _ (fun ds h => hfg _ h) h
        · exact h.elim
    exact mono _ _ _ (fun ds' e => by subst e; exact ⟨h2, rfl, rfl⟩) h4
  obtain ⟨n, ds, hk, hb⟩ := hd
  refine ⟨n, ds, hk, fun E μ a w K Q he hr hK => ?_⟩
  obtain ⟨n', ds', C, e, ⟨rfl, rfl⟩, hl, hn, hsz, hC, hrun, hrel⟩ := buildSlice_sound hb (a := a) hr.eval
  have hps : ps.map (fun p => (p.1, a.eval p.2)) = (ps.toList.map fun p => (p.1, a.eval p.2)).toArray := Array.ext' (by simp)
  refine wpIn_of_run (by rw [ho]; simp) (by simp only [execOp, ho]; rw [Sem.run_bind, show (ps.map fun x => match x with | (i, x) => (i, a.eval x)) = (ps.toList.map fun p => (p.1, a.eval p.2)).toArray from hps, hrun]; rfl) (hK _ _ (Stp.alloc w _) ?_)
  show RelD _ _ _ _
  rw [← hl]
  have heap : ∀ k, k < w.heap.size → (w.alloc (.cells C e)).heap[k]? = w.heap[k]? := fun k hk => Below.heap_alloc w _ k hk
  have hnew := World.alloc_heap_new w (.cells C e)
  have hmul : ∀ i k, i < ds'.length → k < n' → i * n' + k < C.size := fun i k hi hk => by
    have : (i + 1) * n' ≤ ds'.length * n' := Nat.mul_le_mul_right _ hi
    rw [Nat.succ_mul] at this
    rw [hC, ← hl]; omega
  refine .l ds' ⟨w.heap.size, 0, none⟩ _ n' (fun i k => (C[i * n' + k]?).getD undef) (Nat.le_refl _) ⟨.inr (.inl hr.stp.size), by simp, fun ho => ?_⟩ (fun i x hx => hsz x (List.mem_of_getElem? hx)) (fun i k x y hx hy => ?_) (fun i k x y hx hy => ?_)
  · have := hr.mem.own_lt ho; simp at this
  · have h1 : i < ds'.length := (List.getElem?_eq_some_iff.1 hx).1
    have h2 : k < n' := by rw [← hsz x (List.mem_of_getElem? hx)]; exact (List.getElem?_eq_some_iff.1 hy).1
    rw [addr_add, Nat.zero_add, cell_of_row _ _ _ C e (0, 0) hnew]
    simp [hmul i k h1 h2]
  · have h1 : i < ds'.length := (List.getElem?_eq_some_iff.1 hx).1
    have h2 : k < n' := by rw [← hsz x (List.mem_of_getElem? hx)]; exact (List.getElem?_eq_some_iff.1 hy).1
    refine (hrel i k x y _ hx hy (by simp [hmul i k h1 h2])).mono (fun b hb => ⟨⟨hb.1, by have := hb.2.1; simp; omega, hb.2.2⟩, .inl (heap b hb.2.1)⟩)
end Go.Aw

namespace Go.Aw
open Go.RowKit
variable {P : Program}

theorem awQ_inv {o : Oper} {σ : St} {C : V → Prop} (h : awQ P o σ C) : ∃ v, C v ∧ Quiet P o (σ.mask o) v := by
  unfold awQ at h
  split at h
  · rename_i c heq
    split at h
    · obtain ⟨v, hv, h2⟩ := evE_det _ h
      exact ⟨v, hv, quiet_of_ev (evE_mask h2)⟩
    · obtain ⟨v, hq, hC⟩ := h
      exact ⟨v, hC, hq⟩
  · rename_i t len ps heq
    have h' : bsK P t len ps.toList (σ.mask o) fun _ ds => C (.d (.l ds)) := by
      obtain ⟨e, he, g, n, hg, z, b, hzb, h1, h2⟩ := h
      exact ⟨e, he, g, n, hg, z, b, hzb, h1, allD_congr _ _ (fun x hx => mask_eval (σ := σ) (o := o) (by rw [heq]; simp only [Op.operands]; simpa using hx)) h2⟩
    obtain ⟨n, ds, hC, hq⟩ := buildSlice_quiet heq h'
    exact ⟨_, hC, hq⟩
  · obtain ⟨v, hv, h2⟩ := evE_det _ h
    exact ⟨v, hv, quiet_of_ev (evE_mask h2)⟩

/-- A guard's value. -/
def gval (ops : Array Oper) (σ : St) (g : Nat) : V :=
  match (ops[g]?).bind (·.dst) with
  | some t => σ.tm.getD t .j
  | none => .j

def gdK (x : V) (want : Bool) (yes no : Prop) : Prop :=
  match x with
  | .d (.c (.bool b)) => (b = want → yes) ∧ (b = (!want) → no)
  | .d (.c (.tuple _)) => no
  | _ => False

def junk : V := .d (.c undef)

theorem gdK_inv {x : V} {want : Bool} {yes no : Prop} (h : gdK x want yes no) : (x = .d (.c (.bool want)) ∧ yes) ∨ ((∃ c, x = .d (.c c) ∧ c ≠ .bool want ∧ ∀ b, c = .bool b → b ≠ want) ∧ no) := by
  unfold gdK at h
  split at h
  · rename_i b
    by_cases hb : b = want
    · subst hb; exact .inl ⟨rfl, h.1 rfl⟩
    · refine .inr ⟨⟨_, rfl, fun e => hb (by cases e; rfl), fun b' e => by cases e; exact hb⟩, h.2 ?_⟩
      cases b <;> cases want <;> simp_all
  · exact .inr ⟨⟨_, rfl, by simp, fun b e => by cases e⟩, h⟩
  · exact h.elim

theorem yielded_of {E : Env} {w : World} {μ : Map} {σ : St} {ts : Array Value} (h : TmOK E w μ σ ts) {ops : Array Oper} {g : Nat} {c : Value} (hg : gval ops σ g = .d (.c c)) : yielded ops ts g = match c with | .bool b => some b | _ => none := by
  unfold gval at hg
  unfold yielded
  cases hd : (ops[g]?).bind (·.dst) with
  | none => rw [hd] at hg; cases hg
  | some t =>
    rw [hd] at hg
    simp only [List.getD_eq_getElem?_getD] at hg
    cases hx : σ.tm[t]? with
    | none => simp [hx] at hg
    | some x =>
      simp [hx] at hg
      subst hg
      have hlt : t < ts.size := by rw [h.1]; exact (List.getElem?_eq_some_iff.1 hx).1
      have hr := h.2 t _ _ hx (show ts[t]? = some ts[t] by simp [hlt])
      have := rel_c hr
      simp only [Option.bind_some]
      rw [show ts[t]? = some ts[t] by simp [hlt], this]
      cases c <;> rfl

def awG (P : Program) (ops : Array Oper) (o : Oper) (σ : St) (C : V → Prop) : Prop :=
  match o.guard with
  | none => awQ P o σ C
  | some (g, want) => gdK (gval ops σ g) want (awQ P o σ C) (C junk)

def dstOf (ops : Array Oper) (k : Nat) : Option Tmp := (ops[k]?).bind (·.dst)
def looks (ops : Array Oper) (k : Nat) (t : Tmp) : Bool :=
  match ops[k]? with
  | some o => usesT o t || (match o.guard with | some (g, _) => dstOf ops g == some t | none => false)
  | none => false
def waits (ops : Array Oper) (j i : Nat) : Bool := Region.waitsFor .any ops j i

/-- May the region be taken in the order of its text: its first n operations are quiet, the others stand behind each other and behind all of these. -/
def drawOK (ops : Array Oper) (n : Nat) : Bool :=
  decide (n ≤ ops.size) &&
  ((List.range ops.size).all fun i => match ops[i]? with | some o => o.after.all fun e => !Region.binds .any e || decide (e.on < i) | none => true) &&
  ((List.range n).all fun i => (List.range n).all fun j => match dstOf ops j with
    | some t => (!looks ops i t || (decide (j < i) && waits ops i j) || (decide (i < j) && waits ops j i)) && (i == j || dstOf ops i != some t)
    | none => true) &&
  (n == ops.size || (Region.sinkB .any ops n && Region.chainB .any ops n))

theorem find_same {α : Type} {p q : α → Bool} : ∀ (l : List α), (∀ x ∈ l, p x = q x) → l.find? p = l.find? q := by
  intro l
  induction l with
  | nil => intro _; rfl
  | cons x l ih =>
    intro h
    rw [List.find?_cons, List.find?_cons, h x (by simp), ih (fun y hy => h y (by simp [hy]))]

section
variable {ops : Array Oper} {n : Nat}
/-- The slots behind the operations of L. -/
def tmL (ops : Array Oper) (n : Nat) (v : Nat → V) (tm : List V) (L : Nat → Bool) : List V :=
  tm.mapIdx fun t x => match (List.range n).find? (fun k => L k && (dstOf ops k == some t)) with
    | some k => v k
    | none => x

theorem tmL_length (v : Nat → V) (tm : List V) (L : Nat → Bool) : (tmL ops n v tm L).length = tm.length := by simp [tmL]
theorem tmL_get (v : Nat → V) (tm : List V) (L : Nat → Bool) (t : Nat) : (tmL ops n v tm L)[t]? = (tm[t]?).map fun x => match (List.range n).find? (fun k => L k && (dstOf ops k == some t)) with
    | some k => v k
    | none => x := by simp [tmL, List.getElem?_mapIdx]

theorem tmL_same {v : Nat → V} {tm : List V} {L L' : Nat → Bool} {t : Nat} (h : ∀ k, k < n → dstOf ops k = some t → L k = L' k) : (tmL ops n v tm L)[t]? = (tmL ops n v tm L')[t]? := by
  rw [tmL_get, tmL_get]
  have : (List.range n).find? (fun k => L k && (dstOf ops k == some t)) = (List.range n).find? (fun k => L' k && (dstOf ops k == some t)) := by
    refine find_same _ fun k hk => ?_
    by_cases hd : dstOf ops k = some t
    · rw [h k (List.mem_range.1 hk) hd]
    · have hf : (dstOf ops k == some t) = false := by rw [beq_eq_false_iff_ne]; exact hd
      show (L k && (dstOf ops k == some t)) = (L' k && (dstOf ops k == some t))
      rw [hf, Bool.and_false, Bool.and_false]
  rw [this]

theorem tmL_none (v : Nat → V) (tm : List V) (L : Nat → Bool) (h : ∀ k, k < n → L k = false) : tmL ops n v tm L = tm := by
  apply List.ext_getElem?
  intro t
  rw [tmL_get]
  have : (List.range n).find? (fun k => L k && (dstOf ops k == some t)) = none := by
    rw [List.find?_eq_none]
    intro k hk
    rw [h k (List.mem_range.1 hk)]
    simp
  rw [this]
  cases tm[t]? <;> rfl

theorem tmL_step {v : Nat → V} {tm : List V} {L : Nat → Bool} {i : Nat} (hi : i < n) (hd : ∀ a b t, a < n → b < n → dstOf ops a = some t → dstOf ops b = some t → a = b) :
    tmL ops n v tm (fun k => L k || k == i) = match dstOf ops i with | some d => (tmL ops n v tm L).set d (v i) | none => tmL ops n v tm L := by
  cases hdi : dstOf ops i with
  | none =>
    apply List.ext_getElem?
    intro t
    refine tmL_same fun k hk hkt => ?_
    have : k ≠ i := fun e => by subst e; rw [hdi] at hkt; cases hkt
    simp [this]
  | some d =>
    apply List.ext_getElem?
    intro t
    simp only
    rw [List.getElem?_set]
    by_cases hdt : d = t
    · subst hdt
      rw [if_pos rfl, tmL_get, tmL_length]
      have : (List.range n).find? (fun k => (L k || k == i) && (dstOf ops k == some d)) = some i := by
        rw [List.find?_eq_some_iff_append]
        refine ⟨by simp [hdi], (List.range n).take i, (List.range n).drop (i + 1), ?_, fun k hk => ?_⟩
        · have := List.take_append_drop i (List.range n)
          rw [List.drop_eq_getElem_cons (by simpa using hi)] at this
          simpa using this.symm
        · have hkn : k < i := by
            rw [List.take_range] at hk
            have := List.mem_range.1 hk
            omega
          have : dstOf ops k ≠ some d := fun e => by have := hd k i d (by omega) hi e hdi; omega
          simp [this]
      rw [this]
      by_cases hb : d < tm.length
      · simp [hb]
      · simp [hb]
    · rw [if_neg hdt]
      refine tmL_same fun k hk hkt => ?_
      have : k ≠ i := fun e => by subst e; rw [hdi] at hkt; cases hkt; exact hdt rfl
      simp [this]
end
end Go.Aw

namespace Go.Aw
open Go.RowKit
variable {P : Program}

theorem filter_lt {p q : Nat → Bool} : ∀ (l : List Nat), (∀ x ∈ l, q x = true → p x = true) → ∀ i, i ∈ l → p i = true → q i = false → (l.filter q).length < (l.filter p).length := by
  intro l
  induction l with
  | nil => intro _ i hi; cases hi
  | cons x l ih =>
    intro h i hi hp hq
    have hle : (l.filter q).length ≤ (l.filter p).length := by
      have : ∀ (l : List Nat), (∀ x ∈ l, q x = true → p x = true) → (l.filter q).length ≤ (l.filter p).length := by
        intro l
        induction l with
        | nil => intro _; exact Nat.le_refl _
        | cons y l ih =>
          intro h
          have := ih (fun z hz => h z (by simp [hz]))
          by_cases hqy : q y = true
          · simp [hqy, h y (by simp) hqy]; exact this
          · by_cases hpy : p y = true <;> simp [hqy, hpy] <;> omega
      exact this l (fun y hy => h y (by simp [hy]))
    rcases List.mem_cons.1 hi with rfl | hi
    · simp [hp, hq]; omega
    · have := ih (fun y hy => h y (by simp [hy])) i hi hp hq
      by_cases hqx : q x = true
      · simp [hqx, h x (by simp) hqx]; exact this
      · by_cases hpx : p x = true <;> simp [hqx, hpx] <;> omega

section
variable {ops : Array Oper} {n : Nat}

structure DrawOK (ops : Array Oper) (n : Nat) : Prop where
  le : n ≤ ops.size
  back : ∀ i o, ops[i]? = some o → ∀ e ∈ o.after, Region.binds .any e = true → e.on < i
  dep : ∀ i j t, i < n → j < n → dstOf ops j = some t → looks ops i t = true → (j < i ∧ waits ops i j = true) ∨ (i < j ∧ waits ops j i = true)
  dist : ∀ a b t, a < n → b < n → dstOf ops a = some t → dstOf ops b = some t → a = b
  tail : n = ops.size ∨ (Region.sinkB .any ops n = true ∧ Region.chainB .any ops n = true)

theorem drawOK_of (h : drawOK ops n = true) : DrawOK ops n := by
  unfold drawOK at h
  simp only [Bool.and_eq_true, decide_eq_true_eq, Bool.or_eq_true, beq_iff_eq] at h
  obtain ⟨⟨⟨h1, h2⟩, h3⟩, h4⟩ := h
  have hlt : ∀ i o, ops[i]? = some o → i < ops.size := fun i o ho => (Array.getElem?_eq_some_iff.1 ho).1
  refine ⟨h1, fun i o ho e he hb => ?_, fun i j t hi hj hd hl => ?_, fun a b t ha hb hda hdb => ?_, h4⟩
  · have := List.all_eq_true.1 h2 i (List.mem_range.2 (hlt i o ho))
    rw [ho] at this
    have := Array.all_eq_true'.1 this e he
    simpa [hb] using this
  · have := List.all_eq_true.1 (List.all_eq_true.1 h3 i (List.mem_range.2 hi)) j (List.mem_range.2 hj)
    rw [hd] at this
    simp only [Bool.and_eq_true, Bool.or_eq_true, decide_eq_true_eq, Bool.not_eq_true'] at this
    rcases this.1 with (h' | h') | h'
    · rw [hl] at h'; cases h'
    · exact .inl h'
    · exact .inr h'
  · have := List.all_eq_true.1 (List.all_eq_true.1 h3 a (List.mem_range.2 ha)) b (List.mem_range.2 hb)
    rw [hdb] at this
    simp only [Bool.and_eq_true, Bool.or_eq_true, beq_iff_eq, bne_iff_ne] at this
    rcases this.2 with h' | h'
    · exact h'
    · exact absurd hda h'

/-- What is known of the operations of the head, each at the state in which the text comes to it. -/
def HeadAt (P : Program) (ops : Array Oper) (n : Nat) (σ : St) (v : Nat → V) (i : Nat) : Prop :=
  ∀ o, ops[i]? = some o → match o.guard with
    | none => Quiet P o (St.mask { σ with tm := tmL ops n v σ.tm (fun k => decide (k < i)) } o) (v i)
    | some (g, want) =>
      (gval ops { σ with tm := tmL ops n v σ.tm (fun k => decide (k < i)) } g = .d (.c (.bool want)) ∧ Quiet P o (St.mask { σ with tm := tmL ops n v σ.tm (fun k => decide (k < i)) } o) (v i)) ∨
      ((∃ c, gval ops { σ with tm := tmL ops n v σ.tm (fun k => decide (k < i)) } g = .d (.c c) ∧ c ≠ .bool want ∧ ∀ b, c = .bool b → b ≠ want) ∧ v i = junk)

theorem tail_any {ro : Option Nat} {Q : Exit → Act → World → Prop} (hD : DrawOK ops n) : ∀ (d m : Nat) (listed : Array Bool) (a : Act) (w : World), ops.size - m = d → n ≤ m → m ≤ ops.size → listed.size = ops.size → (∀ k, k < ops.size → listed.getD k false = decide (k < m)) →
    ∀ fuel, d ≤ fuel → wpOpsIn (FW ro) 0 P ops Q (List.range' m d) a w → wpAnyIn (FW ro) 0 P .any ops Q fuel listed a w := by
  intro d
  induction d with
  | zero =>
    intro m listed a w hd hn hm hs hL fuel hf h
    have hr : Region.ready .any ops listed = [] := by
      refine List.eq_nil_iff_forall_not_mem.2 fun i hi => ?_
      obtain ⟨h1, o, ho, _⟩ := mem_ready.1 hi
      have hlt := (Array.getElem?_eq_some_iff.1 ho).1
      have := hL i hlt
      rw [getD_both h1] at this
      simp at this
      omega
    have hq : Q .normal a w := h
    cases fuel with
    | zero => exact ⟨hr, hq⟩
    | succ f => exact ⟨fun _ => hq, fun i hi => (by rw [hr] at hi; cases hi)⟩
  | succ d ih =>
    intro m listed a w hd hn hm hs hL fuel hf h
    obtain ⟨fuel, rfl⟩ : ∃ f, fuel = f + 1 := ⟨fuel - 1, by omega⟩
    have hmlt : m < ops.size := by omega
    have hmr : m ∈ Region.ready .any ops listed := by
      refine mem_ready.2 ⟨?_, ops[m], by simp [hmlt], fun e he hb => ?_⟩
      · have := hL m hmlt
        simp at this
        exact getD_in (by rw [hs]; exact hmlt) (by simpa using this)
      · have h1 := hD.back m _ (by simp [hmlt]) e he hb
        rw [hL e.on (by omega)]
        simpa using h1
    have hone : ∀ i ∈ Region.ready .any ops listed, i = m := by
      intro i hi
      obtain ⟨h1, o, ho, hall⟩ := mem_ready.1 hi
      have hlt := (Array.getElem?_eq_some_iff.1 ho).1
      have h2 := hL i hlt
      rw [getD_both h1] at h2
      simp at h2
      rcases Nat.lt_or_ge m i with hmi | hmi
      · -- it waits for the one ahead of it
        rcases hD.tail with e | ⟨_, hc⟩
        · omega
        · have h3 := List.all_eq_true.1 hc i (List.mem_range.2 hlt)
          simp only [Bool.or_eq_true, decide_eq_true_eq] at h3
          rcases h3 with h3 | h3
          · omega
          · obtain ⟨o', ho', e, he, hb, hon⟩ := Region.waitsFor_spec h3
            rw [ho] at ho'
            cases ho'
            have h4 := hall e he hb
            rw [hon, hL (i - 1) (by omega)] at h4
            simp at h4
            omega
      · omega
    refine ⟨fun e => (by rw [e] at hmr; cases hmr), fun i hi => ?_⟩
    obtain rfl := hone i hi
    rw [List.range'_succ, wpOpsIn_cons] at h
    refine wpOpIn_mono (fun a' w' h' => ih (i + 1) _ a' w' (by omega) (by omega) (by omega) (by simp [hs]) (fun k hk => ?_) fuel (by omega) h') h
    by_cases hki : i = k
    · subst hki
      have : (listed.setIfInBounds i true).getD i false = true := by simp [hs, hk]
      rw [this]; simp
    · rw [getD_set_ne false hki, hL k hk]
      simp; omega

theorem head_any {Q : Exit → Act → World → Prop} (hD : DrawOK ops n) {E : Env} (he : EOK P E) {σ : St} {v : Nat → V} (hH : ∀ i, i < n → HeadAt P ops n σ v i)
    (hT : ∀ a w, RelS E { σ with tm := tmL ops n v σ.tm (fun k => decide (k < n)) } a w → wpOpsIn (FW E.ro) 0 P ops Q (List.range' n (ops.size - n)) a w) :
    ∀ (fuel : Nat) (listed : Array Bool) (a : Act) (w : World), HeadInv .any ops n listed → ((List.range ops.size).filter fun k => !listed.getD k false).length ≤ fuel →
      RelS E { σ with tm := tmL ops n v σ.tm (fun k => listed.getD k false) } a w → wpAnyIn (FW E.ro) 0 P .any ops Q fuel listed a w := by
  intro fuel
  induction fuel with
  | zero =>
    intro listed a w inv hU hr
    have hall : ∀ k, k < ops.size → listed.getD k false = true := fun k hk => by
      have h0 := List.eq_nil_of_length_eq_zero (Nat.le_zero.1 hU)
      cases hl : listed.getD k false with
      | true => rfl
      | false =>
        have : k ∈ (List.range ops.size).filter fun k => !listed.getD k false := List.mem_filter.2 ⟨List.mem_range.2 hk, by rw [hl]; rfl⟩
        rw [h0] at this
        cases this
    have hns : n = ops.size := by
      rcases Nat.lt_or_ge n ops.size with h' | h'
      · have h1 := inv.tail n (Nat.le_refl _) h'
        have h2 := hall n h'
        rw [getD_both h1] at h2
        cases h2
      · exact Nat.le_antisymm hD.le h'
    have e : tmL ops n v σ.tm (fun k => listed.getD k false) = tmL ops n v σ.tm (fun k => decide (k < n)) := by
      apply List.ext_getElem?
      intro t
      refine tmL_same fun k hk _ => ?_
      rw [hall k (by omega)]
      simp [hk]
    rw [e] at hr
    exact tail_any hD (ops.size - n) n listed a w rfl (Nat.le_refl _) hD.le inv.size (fun k hk => by rw [hall k hk]; simp; omega) 0 (by omega) (hT a w hr)
  | succ fuel ih =>
    intro listed a w inv hU hr
    by_cases hdone : ∀ k, k < n → listed.getD k false = true
    · have e : tmL ops n v σ.tm (fun k => listed.getD k false) = tmL ops n v σ.tm (fun k => decide (k < n)) := by
        apply List.ext_getElem?
        intro t
        refine tmL_same fun k hk _ => ?_
        rw [hdone k hk]
        simp [hk]
      rw [e] at hr
      have hL : ∀ k, k < ops.size → listed.getD k false = decide (k < n) := fun k hk => by
        by_cases hkn : k < n
        · rw [hdone k hkn]; simp [hkn]
        · rw [getD_both (inv.tail k (by omega) hk)]; simp [hkn]
      refine tail_any hD (ops.size - n) n listed a w rfl (Nat.le_refl _) hD.le inv.size hL (fuel + 1) ?_ (hT a w hr)
      have : ((List.range ops.size).filter fun k => !listed.getD k false).length = ops.size - n := by
        have : ((List.range ops.size).filter fun k => !listed.getD k false) = (List.range ops.size).filter fun k => decide (n ≤ k) := by
          refine List.filter_congr fun k hk => ?_
          rw [hL k (List.mem_range.1 hk)]
          by_cases hkn : k < n
          · simp [hkn]
          · simp [hkn]; omega
        rw [this]
        have h1 : ∀ (m : Nat), ((List.range m).filter fun k => decide (n ≤ k)).length = m - n := by
          intro m
          induction m with
          | zero => simp
          | succ m ihm =>
            rw [List.range_succ, List.filter_append, List.length_append, ihm]
            by_cases hm : n ≤ m
            · simp [hm]; omega
            · simp [hm]; omega
        exact h1 _
      omega
    · -- some operation of the head is still to come
      have hex : ∃ k, k < n ∧ listed.getD k false = false := by
        refine Classical.byContradiction fun hne => hdone fun k hk => ?_
        cases hl : listed.getD k false with
        | true => rfl
        | false => exact absurd ⟨k, hk, hl⟩ hne
      obtain ⟨k0, hk0, hl0⟩ := hex
      have hnolate : ∀ t, n ≤ t → t ∉ Region.ready .any ops listed := by
        intro t ht hr'
        obtain ⟨_, ot, hot, _⟩ := mem_ready.1 hr'
        have htl := (Array.getElem?_eq_some_iff.1 hot).1
        rcases hD.tail with e | ⟨hs, hc⟩
        · omega
        · exact tail_waits hs hc (by omega) inv _ k0 rfl hk0 (getD_in (by rw [inv.size]; have := hD.le; omega) hl0) t ht hr'
      have hsome : Region.ready .any ops listed ≠ [] := by
        -- the first that is not listed
        have : ∀ d k, k ≤ d → k < n → listed.getD k false = false → ∃ i, i ∈ Region.ready .any ops listed := by
          intro d
          induction d with
          | zero =>
            intro k hk hkn hl
            obtain rfl : k = 0 := by omega
            have hlt : 0 < ops.size := by have := hD.le; omega
            exact ⟨0, mem_ready.2 ⟨getD_in (by rw [inv.size]; exact hlt) hl, ops[0], by simp [hlt], fun e he hb => by have := hD.back 0 _ (by simp [hlt]) e he hb; omega⟩⟩
          | succ d ihd =>
            intro k hk hkn hl
            by_cases hb : ∃ k', k' < k ∧ listed.getD k' false = false
            · obtain ⟨k', h1, h2⟩ := hb
              exact ihd k' (by omega) (by omega) h2
            · have hlt : k < ops.size := by have := hD.le; omega
              refine ⟨k, mem_ready.2 ⟨getD_in (by rw [inv.size]; exact hlt) hl, ops[k], by simp [hlt], fun e he hbd => ?_⟩⟩
              have h1 := hD.back k _ (by simp [hlt]) e he hbd
              cases hle : listed.getD e.on false with
              | true => rfl
              | false => exact absurd ⟨e.on, h1, hle⟩ hb
        obtain ⟨i, hi⟩ := this k0 k0 (Nat.le_refl _) hk0 hl0
        exact fun e => by rw [e] at hi; cases hi
      refine ⟨fun e => absurd e hsome, fun i hi => ?_⟩
      have hin : i < n := by
        rcases Nat.lt_or_ge i n with h' | h'
        · exact h'
        · exact absurd hi (hnolate i h')
      obtain ⟨hun, o, ho, hall⟩ := mem_ready.1 hi
      have hun' := getD_both hun
      have hagree : ∀ t, looks ops i t = true → (tmL ops n v σ.tm (fun k => decide (k < i)))[t]? = (tmL ops n v σ.tm (fun k => listed.getD k false))[t]? := fun t ht => by
        refine tmL_same fun k hk hkt => ?_
        rcases hD.dep i k t hin hk hkt ht with ⟨h1, h2⟩ | ⟨h1, h2⟩
        · obtain ⟨o', ho', e, he, hb, hon⟩ := Region.waitsFor_spec h2
          rw [ho] at ho'
          cases ho'
          have := hall e he hb
          rw [hon] at this
          rw [this]
          simp [h1]
        · obtain ⟨o', ho', e, he, hb, hon⟩ := Region.waitsFor_spec h2
          cases hl : listed.getD k false with
          | false => simp; omega
          | true =>
            have := inv.closed k o' ho' hl e he hb
            rw [hon, hun'] at this
            cases this
      have hmask : St.mask { σ with tm := tmL ops n v σ.tm (fun k => decide (k < i)) } o = St.mask { σ with tm := tmL ops n v σ.tm (fun k => listed.getD k false) } o :=
        mask_eq (by rw [tmL_length, tmL_length]) fun t ht => hagree t (by simp [looks, ho, ht])
      have hfin : ∀ (a' : Act) (w' : World), RelS E (St.put { σ with tm := tmL ops n v σ.tm (fun k => listed.getD k false) } o.dst (v i)) a' w' →
          wpAnyIn (FW E.ro) 0 P .any ops Q fuel (listed.setIfInBounds i true) a' w' := fun a' w' hr' => by
        refine ih _ a' w' (inv.set hi hin) ?_ ?_
        · have hlt := filter_lt (p := fun k => !listed.getD k false) (q := fun k => !(listed.setIfInBounds i true).getD k false) (List.range ops.size) (fun k hk hq => ?_) i (List.mem_range.2 (Array.getElem?_eq_some_iff.1 ho).1) (by simp [hun']) ?_
          · omega
          · by_cases hki : i = k
            · subst hki; simp [hun']
            · rw [getD_set_ne false hki] at hq; exact hq
          · have : (listed.setIfInBounds i true).getD i false = true := by simp [inv.size, (Array.getElem?_eq_some_iff.1 ho).1]
            rw [this]; rfl
        · have e : tmL ops n v σ.tm (fun k => (listed.setIfInBounds i true).getD k false) = tmL ops n v σ.tm (fun k => listed.getD k false || k == i) := by
            apply List.ext_getElem?
            intro t
            refine tmL_same fun k hk _ => ?_
            by_cases hki : i = k
            · subst hki
              simp [inv.size, (Array.getElem?_eq_some_iff.1 ho).1]
            · rw [getD_set_ne false hki]
              have : (k == i) = false := by simp; omega
              simp [this]
          rw [e, tmL_step (v := v) (tm := σ.tm) (L := fun k => listed.getD k false) hin hD.dist]
          have hdst : dstOf ops i = o.dst := by simp [dstOf, ho]
          rw [hdst]
          cases hd : o.dst with
          | none => rw [hd] at hr'; exact hr'
          | some d => rw [hd] at hr'; exact hr'
      obtain ⟨μ, hr⟩ := hr
      unfold wpOpIn
      rw [ho]
      simp only
      have hq : Quiet P o (St.mask { σ with tm := tmL ops n v σ.tm (fun k => decide (k < i)) } o) (v i) → o.wpIn (FW E.ro) 0 P a w (wpAnyIn (FW E.ro) 0 P .any ops Q fuel (listed.setIfInBounds i true)) Q := fun hq => by
        rw [hmask] at hq
        refine hq E μ a w _ Q he (hr.mask o) (fun u w' hs hu => hfin _ _ ⟨μ, (hr.later hs).put o.dst ?_⟩)
        cases hv : v i <;> rw [hv] at hu <;> exact hu
      have hh := hH i hin o ho
      cases hg : o.guard with
      | none =>
        rw [hg] at hh
        rw [if_pos (by simp [Region.wanted, hg])]
        exact hq hh
      | some gw =>
        obtain ⟨g, want⟩ := gw
        rw [hg] at hh
        have hgv : gval ops { σ with tm := tmL ops n v σ.tm (fun k => decide (k < i)) } g = gval ops { σ with tm := tmL ops n v σ.tm (fun k => listed.getD k false) } g := by
          unfold gval
          cases hd : (ops[g]?).bind (·.dst) with
          | none => rfl
          | some t =>
            simp only [List.getD_eq_getElem?_getD]
            rw [hagree t (by simp [looks, ho, hg, dstOf, hd])]
        rcases hh with ⟨h1, h2⟩ | ⟨⟨c, h1, h2, h3⟩, h4⟩
        · rw [hgv] at h1
          have := yielded_of hr.tm h1
          rw [if_pos (by simp [Region.wanted, hg, this])]
          exact hq h2
        · rw [hgv] at h1
          have hy := yielded_of hr.tm h1
          have : Region.wanted o (yielded ops a.tmps) = false := by
            simp only [Region.wanted, hg, hy]
            cases c <;> simp
            rename_i b
            exact h3 b rfl
          rw [if_neg (by rw [this]; simp)]
          refine ⟨fun _ _ => trivial, hfin _ _ ⟨μ, hr.put o.dst ?_⟩⟩
          rw [h4]
          exact RelD.c _
end
end Go.Aw

namespace Go.Aw
open Go.RowKit
variable {P : Program}
def St.addRow (σ : St) (row : Row) : St := { σ with rw := σ.rw ++ [some row] }

theorem Rel.adopt {E : Env} {σ : St} {μ : Map} {a : Act} {w w' : World} (h : Rel E σ μ a w) (hs : Stp (fun _ => False) w w') {b sh : Nat} {C : Array Value} {et : TypeId} {row : Row} (hbw : w.heap.size ≤ b) (hnew : w'.heap[b]? = some (.cells C et (0, 0))) (h0 : 0 < row.sz)
    (hsz : ∀ x ∈ row.xs, x.cells.length = row.sz) (hC : sh + row.xs.length * row.sz ≤ C.size)
    (hx : ∀ (i k : Nat) (x y : D) (u : Value), row.xs[i]? = some x → x.cells[k]? = some y → C[sh + i * row.sz + k]? = some u → RelD w' (fun b' => (Fz E w μ σ b' ∨ w.heap.size ≤ b') ∧ b' < w'.heap.size ∧ b' ≠ b) y u) :
    Rel E (σ.addRow row) (μ.row σ.rw.length (some (b, sh))) a w' ∧ ∀ cap, row.xs.length ≤ cap → sh + cap * row.sz ≤ C.size → RelV E w' (μ.row σ.rw.length (some (b, sh))) (σ.addRow row) (.o σ.rw.length 0 row.xs.length) (.slice (some ⟨b, sh, none⟩) row.xs.length cap) := by
  have hblt : b < w'.heap.size := (Array.getElem?_eq_some_iff.1 hnew).1
  have hold : ∀ r row', (σ.addRow row).rw[r]? = some (some row') → (r < σ.rw.length ∧ σ.rw[r]? = some (some row')) ∨ (r = σ.rw.length ∧ row' = row) := fun r row' hr => by
    simp only [St.addRow, List.getElem?_append] at hr
    split at hr
    · rename_i hlt; exact .inl ⟨hlt, hr⟩
    · rename_i hlt
      have : r = σ.rw.length := by
        have := (List.getElem?_eq_some_iff.1 hr).1
        simp at this; omega
      subst this
      simp at hr
      exact .inr ⟨rfl, hr.symm⟩
  have hown : ∀ b', Own (μ.row σ.rw.length (some (b, sh))) (σ.addRow row) b' → Own μ σ b' ∨ b' = b := by
    rintro b' (⟨i, hi, rfl⟩ | ⟨r, row', sh', hr, hm⟩)
    · exact .inl (.inl ⟨i, hi, rfl⟩)
    · rcases hold r row' hr with ⟨hlt, hr'⟩ | ⟨rfl, rfl⟩
      · exact .inl (.inr ⟨r, row', sh', hr', by simpa [Map.row, Nat.ne_of_lt hlt] using hm⟩)
      · simp [Map.row] at hm; exact .inr hm.1.symm
  have heap : ∀ k, k < w.heap.size → w'.heap[k]? = w.heap[k]? := fun k hk => hs.block k hk (fun h => h)
  have t : Tr E (fun _ => False) w μ σ w' (μ.row σ.rw.length (some (b, sh))) (σ.addRow row) := by
    refine ⟨fun b' hb => ⟨⟨hb.1, Nat.lt_of_lt_of_le hb.2.1 hs.size, fun ho => ?_⟩, .inl (heap b' hb.2.1)⟩, Nat.le_refl _, fun i hi => rfl, by simp [St.addRow], fun r row' hlt _ hr => ?_, ?_⟩
    · rcases hown b' ho with h' | h'
      · exact hb.2.2 h'
      · have := hb.2.1; omega
    · rcases hold r row' hr with ⟨_, hr'⟩ | ⟨rfl, _⟩
      · exact ⟨row', hr', rfl, Nat.le_refl _, by simp [Map.row, Nat.ne_of_lt hlt]⟩
      · omega
    · rintro b' n ⟨D, et', fr, h1, h2⟩
      exact ⟨D, et', fr, (heap b' (Array.getElem?_eq_some_iff.1 h1).1).trans h1, h2⟩
  have blt : ∀ i, i < σ.bx.length → μ.b i < w.heap.size := fun i hi => h.mem.own_lt (.inl ⟨i, hi, rfl⟩)
  have rlt : ∀ r row b sh, σ.rw[r]? = some (some row) → μ.r r = some (b, sh) → b < w.heap.size := fun r row b sh hr hm => h.mem.own_lt (.inr ⟨r, row, sh, hr, hm⟩)
  have hmr : ∀ r, r < σ.rw.length → (μ.row σ.rw.length (some (b, sh))).r r = μ.r r := fun r hlt => by simp [Map.row, Nat.ne_of_lt hlt]
  have hmn : (μ.row σ.rw.length (some (b, sh))).r σ.rw.length = some (b, sh) := by simp [Map.row]
  have hw0 := h.stp.size
  constructor
  · refine h.step (hs.mono (fun _ _ h => h.elim)) (fun b' hb => (hown b' hb).imp id (fun e => by omega)) ⟨h.mem.bb, fun i r row' sh' hi hr => ?_, fun r r' row1 row2 b1 sh1 sh2 hr hr' h1 h2 => ?_, fun i y hy => (h.mem.box i y hy).tr t (fun z _ => no_men z) (heap _ (h.mem.box i y hy).lt), fun r row' hr => ?_⟩ t rfl (fun k x hx => .inr ⟨hx, no_men x⟩)
    · rcases hold r row' hr with ⟨hlt, hr'⟩ | ⟨rfl, rfl⟩
      · rw [hmr r hlt]; exact h.mem.br i r row' sh' hi hr'
      · rw [hmn]
        intro e
        have := blt i hi
        simp only [Option.some.injEq, Prod.mk.injEq] at e
        have e1 : (μ.row σ.rw.length (some (b, sh))).b i = μ.b i := rfl
        omega
    · rcases hold r row1 hr with ⟨hlt, hr1⟩ | ⟨rfl, rfl⟩ <;> rcases hold r' row2 hr' with ⟨hlt', hr2⟩ | ⟨rfl, rfl⟩
      · rw [hmr _ hlt] at h1
        rw [hmr _ hlt'] at h2
        exact h.mem.rr r r' row1 row2 b1 sh1 sh2 hr1 hr2 h1 h2
      · rw [hmr _ hlt] at h1
        rw [hmn] at h2
        have := rlt _ _ _ _ hr1 h1
        simp at h2; omega
      · rw [hmr _ hlt'] at h2
        rw [hmn] at h1
        have := rlt _ _ _ _ hr2 h2
        simp at h1; omega
      · rfl
    · rcases hold r row' hr with ⟨hlt, hr'⟩ | ⟨rfl, rfl⟩
      · rw [hmr r hlt]
        exact (h.mem.row r row' hr').tr t (fun b' sh' e => heap b' (rlt r row' b' sh' hr' e))
      · rw [hmn]
        refine ⟨h0, hsz, C, et, hnew, hC, fun i k x y u hx' hy hu => (hx i k x y u hx' hy hu).mono (fun b' hb' => ⟨⟨?_, hb'.2.1, fun ho => ?_⟩, .inl rfl⟩)⟩
        · rcases hb'.1 with h' | h'
          · exact h'.1
          · exact .inr (.inl (Nat.le_trans hw0 h'))
        · rcases hown b' ho with h1 | h1
          · rcases hb'.1 with h' | h'
            · exact h'.2.2 h1
            · have := h.mem.own_lt h1; omega
          · exact hb'.2.2 h1
  · intro cap hcap hroom
    refine ⟨⟨by simp [St.addRow], _, _, _, rfl⟩, fun row' hr => ?_⟩
    rcases hold _ row' hr with ⟨hlt, _⟩ | ⟨_, rfl⟩
    · omega
    · exact ⟨by omega, .inr ⟨b, sh, _, cap, hmn, rfl, hcap, fun _ => by simp, C, et, _, hnew, by simpa using hroom⟩⟩

theorem RelD.tight_inv {w : World} {N : Nat → Prop} {xs : List D} {v : Value} (h : RelD w N (.tight xs) v) : ∃ A, v = .slice A xs.length xs.length ∧ RelD w N (.l xs) (.slice A xs.length xs.length) := by
  cases h with
  | tight _ A h => exact ⟨A, rfl, h⟩
/-- Behind a slice without room a new one is laid. -/
theorem tight_sound {E : Env} {σ : St} {μ : Map} {a : Act} {w : World} (h : Rel E σ μ a w) {t e ty : TypeId} {i : TypeInfo} {z : Value} {v : Value} {xs ys : List D} {A' : Option Addr} {c : Nat} {news : List Value}
    (ht : P.underlying t = some (.slice e)) (hi : P.info? e = some i) (hz : i.zero = some z) (hzs : z.cells.size = i.size) (h0 : 0 < i.size) (hv : RelD w (Fz E w μ σ) (.tight xs) v) (hxs : ∀ x ∈ xs, x.cells.length = i.size ∧ x.cells.all D.one = true)
    (hy0 : ys ≠ []) (hys : ∀ x ∈ ys, x.cells.length = i.size ∧ x.cells.all D.one = true) (hsrc : Src w (Fz E w μ σ) i.size ys A' news) (hb : (xs.length + ys.length) * i.bytes ≤ 140737488355328) (hb' : xs.length + ys.length ≤ 140737488355328) :
    ∃ v' w' μ', (Builtin.append_ #[t, t] ty #[v, .slice A' ys.length c]).run P w = .ok v' w' ∧ Rel E (σ.addRow ⟨i.size, xs ++ ys⟩) μ' a w' ∧ RelV E w' μ' (σ.addRow ⟨i.size, xs ++ ys⟩) (.o σ.rw.length 0 (xs.length + ys.length)) v' := by
  obtain ⟨ad, rfl⟩ : ∃ ad, A' = some ad := by
    cases A' with
    | none => exact absurd (hsrc.none rfl) hy0
    | some ad => exact ⟨ad, rfl⟩
  have hpos : 0 < ys.length := List.length_pos_iff.2 hy0
  obtain ⟨A, rfl, hl⟩ := hv.tight_inv
  -- a new block
  have fresh : ∀ (olds : List Value) (cap : Nat), cap < xs.length + ys.length → olds.length = xs.length * i.size →
      (∀ (j k : Nat) (x y : D) (u : Value), xs[j]? = some x → x.cells[k]? = some y → olds[j * i.size + k]? = some u → RelD w (Fz E w μ σ) y u) →
      Rel E (σ.addRow ⟨i.size, xs ++ ys⟩) (μ.row σ.rw.length (some (w.heap.size, 0))) a (w.drew.alloc (.cells (olds.toArray ++ news.toArray ++ Builtin.zeroCells z.cells (grownCap w (xs.length + ys.length) cap e - (xs.length + ys.length))) e)) ∧
      RelV E (w.drew.alloc (.cells (olds.toArray ++ news.toArray ++ Builtin.zeroCells z.cells (grownCap w (xs.length + ys.length) cap e - (xs.length + ys.length))) e)) (μ.row σ.rw.length (some (w.heap.size, 0))) (σ.addRow ⟨i.size, xs ++ ys⟩) (.o σ.rw.length 0 (xs.length + ys.length))
        (.slice (some ⟨w.heap.size, 0, none⟩) (xs.length + ys.length) (grownCap w (xs.length + ys.length) cap e)) := by
    intro olds cap hc hol ho
    have hlen : (olds ++ news).length = (xs.length + ys.length) * i.size := by rw [List.length_append, hol, hsrc.len, Nat.add_mul]
    have hcs := growSlot (w := w) (cap := cap) (e := e) hzs hlen
    have hge := grownCap_ge w (xs.length + ys.length) cap e
    have heap : ∀ k, k < w.heap.size → (w.drew.alloc (.cells (olds.toArray ++ news.toArray ++ Builtin.zeroCells z.cells (grownCap w (xs.length + ys.length) cap e - (xs.length + ys.length))) e)).heap[k]? = w.heap[k]? := fun k hk => Below.heap_alloc w.drew _ k hk
    have hnew := World.alloc_heap_new w.drew (.cells (olds.toArray ++ news.toArray ++ Builtin.zeroCells z.cells (grownCap w (xs.length + ys.length) cap e - (xs.length + ys.length))) e)
    have hmul : (xs.length + ys.length) * i.size ≤ grownCap w (xs.length + ys.length) cap e * i.size := Nat.mul_le_mul_right _ hge
    have hsx : ∀ x ∈ xs ++ ys, x.cells.length = i.size := fun x hx => (List.mem_append.1 hx).elim (fun h => (hxs x h).1) (fun h => (hys x h).1)
    have hstp : Stp (fun _ => False) w (w.drew.alloc (.cells (olds.toArray ++ news.toArray ++ Builtin.zeroCells z.cells (grownCap w (xs.length + ys.length) cap e - (xs.length + ys.length))) e)) :=
      (Stp.drew (Ow := fun _ => False) w).trans (Stp.alloc (Ow := fun _ => False) w.drew _) (fun _ h => h.elim)
    have hsz : (w.drew.alloc (.cells (olds.toArray ++ news.toArray ++ Builtin.zeroCells z.cells (grownCap w (xs.length + ys.length) cap e - (xs.length + ys.length))) e)).heap.size = w.heap.size + 1 := by simp
    obtain ⟨g1, g2⟩ := h.adopt (row := ⟨i.size, xs ++ ys⟩) (b := w.heap.size) (sh := 0) (et := e) hstp (Nat.le_refl _) hnew h0 hsx (by rw [hcs]; show 0 + (xs ++ ys).length * i.size ≤ _; rw [List.length_append]; omega) (fun j k x y u hx hy hu => by
      have hkk : j * i.size + k < (olds ++ news).length := by
        rw [hlen]
        have h1 : j < xs.length + ys.length := by rw [← List.length_append]; exact (List.getElem?_eq_some_iff.1 hx).1
        have h2 : k < i.size := by rw [← hsx x (List.mem_of_getElem? hx)]; exact (List.getElem?_eq_some_iff.1 hy).1
        have : (j + 1) * i.size ≤ (xs.length + ys.length) * i.size := Nat.mul_le_mul_right _ h1
        rw [Nat.succ_mul] at this
        omega
      have hu : (olds.toArray ++ news.toArray ++ Builtin.zeroCells z.cells (grownCap w (xs.length + ys.length) cap e - (xs.length + ys.length)))[j * i.size + k]? = some u := by rw [← hu]; congr 1; show _ = 0 + j * i.size + k; omega
      rw [Array.getElem?_append_left (by simpa using hkk)] at hu
      have hrel := cells_split (α := Unit) (fun y u => RelD w (Fz E w μ σ) y u) hol rfl ho hsrc.rel hsx () j k x y u hx hy (by simpa using hu)
      refine hrel.mono fun b' hb' => ⟨⟨.inl hb', by rw [hsz]; have := hb'.2.1; omega, by have := hb'.2.1; omega⟩, .inl (heap b' hb'.2.1)⟩)
    refine ⟨g1, ?_⟩
    have g3 := g2 (grownCap w (xs.length + ys.length) cap e) (by show (xs ++ ys).length ≤ _; rw [List.length_append]; exact hge) (by rw [hcs]; show 0 + _ * i.size ≤ _; omega)
    have e1 : (xs ++ ys).length = xs.length + ys.length := List.length_append
    simp only [e1] at g3
    exact g3
  have hbig : ((xs.length + ys.length : Nat) : Int) ≤ 9223372036854775807 := by omega
  by_cases hx0 : xs = []
  · subst hx0
    obtain ⟨g1, g2⟩ := fresh [] 0 (by simpa using hpos) (by simp) (fun j k x y u hx => by simp at hx)
    cases A with
    | none =>
      have hrun := run_append_nil (P := P) w t ty e i z ht hi hz ad ys.length c news hsrc.len (hsrc.cell ad rfl) hpos (by simp only [List.length_nil] at hbig; omega) (by simp only [List.length_nil, Nat.zero_add] at hb; omega)
      simp only [List.length_nil, Nat.zero_add] at g1 g2 ⊢
      exact ⟨_, _, _, hrun, by simpa using g1, by simpa using g2⟩
    | some a0 =>
      have hrun := run_append_grow (P := P) w t ty e i z ht hi hz a0 0 0 [] (by simp) (by simp) ad ys.length c news hsrc.len (hsrc.cell ad rfl) (by omega) hbig (growslice_fits (by omega) hb)
      exact ⟨_, _, _, hrun, g1, g2⟩
  · cases hl with
    | nl => exact absurd rfl hx0
    | l _ ad0 cap sz u hc hN hs hu hr =>
      obtain rfl : sz = i.size := by
        obtain ⟨x0, hx1⟩ := List.exists_mem_of_ne_nil xs hx0
        obtain ⟨j, hj⟩ := List.getElem?_of_mem hx1
        rw [← hs j x0 hj]; exact (hxs x0 hx1).1
      have hso := src_of (w := w) (N := Fz E w μ σ) h0 hxs u (fun j k x y hx hy => ⟨hu j k x y hx hy, hr j k x y hx hy⟩)
      have hrun := run_append_grow (P := P) w t ty e i z ht hi hz ad0 xs.length xs.length _ hso.len (hso.cell ad0 rfl) ad ys.length c news hsrc.len (hsrc.cell ad rfl) (by omega) hbig (growslice_fits (by omega) hb)
      obtain ⟨g1, g2⟩ := fresh _ xs.length (by omega) hso.len hso.rel
      exact ⟨_, _, _, hrun, g1, g2⟩
end Go.Aw

namespace Go.Aw
open Go.RowKit
variable {P : Program}

def St.addBox (σ : St) (x : V) : St := { σ with bx := σ.bx ++ [x] }
def St.setBox (σ : St) (b : Nat) (x : V) : St := { σ with bx := σ.bx.set b x }
def St.setRow (σ : St) (r : Nat) (row : Row) : St := { σ with rw := σ.rw.set r (some row) }

def stK (P : Program) (t : TypeId) (σ : St) (ad x : V) (K : St → Prop) : Prop :=
  match ad with
  | .p b sub => tyK P t fun _ n => (sub = 0 ∧ x.cells.all V.one = true ∧ x.cells.length = n ∧ (σ.bx.getD b .j).cells.length = n) ∧ K (σ.setBox b x)
  | .e r i sub => rwK σ r fun row => tyK P t fun _ n => dK x fun d => (sub = 0 ∧ n = row.sz ∧ d.cells.all D.one = true ∧ d.cells.length = row.sz) ∧ K (σ.setRow r ⟨row.sz, row.xs.set i d⟩)
  | _ => False

def apK (P : Program) (σ : St) (t : TypeId) (s x : V) (K : V → St → Prop) : Prop :=
  slK P t fun e => tyK P e fun _ n => zbK P e fun z b => (0 < n ∧ z.cells.size = n) ∧ srcK σ n x fun ys => (∀ y ∈ ys, y.cells.length = n ∧ y.cells.all D.one = true) ∧
    match s with
    | .nl => (ys.length * b ≤ 140737488355328 ∧ ys.length ≤ 140737488355328) ∧ K (.o σ.rw.length 0 ys.length) ((σ.addRow ⟨n, []⟩).app σ.rw.length ⟨n, ys⟩)
    | .o r off len => rwK σ r fun row => ((ys = [] → off = 0) ∧ row.sz = n ∧ off + len = row.xs.length ∧ (len + ys.length) * b ≤ 140737488355328 ∧ len + ys.length ≤ 140737488355328) ∧ K (.o r 0 (len + ys.length)) (σ.app r ⟨n, row.xs.drop off ++ ys⟩)
    | .d (.tight xs) => ((∀ y ∈ xs, y.cells.length = n ∧ y.cells.all D.one = true) ∧ ys ≠ [] ∧ (xs.length + ys.length) * b ≤ 140737488355328 ∧ xs.length + ys.length ≤ 140737488355328) ∧ K (.o σ.rw.length 0 (xs.length + ys.length)) (σ.addRow ⟨n, xs ++ ys⟩)
    | _ => False

def mkK (P : Program) (σ : St) (t : TypeId) (l c : V) (K : V → St → Prop) : Prop :=
  iK l fun k n => iK c fun k' n' => slK P t fun e => tyK P e fun _ s => zbK P e fun z b => (k = .i64 ∧ k' = .i64 ∧ n' = n ∧ 0 ≤ n ∧ n ≤ 1048576 ∧ b ≤ 1048576 ∧ 0 < s ∧ z.cells.size = s) ∧
    dK (constV z) fun d => (d.cells.length = s ∧ d.cells.all D.one = true) ∧ K (.o σ.rw.length 0 n.toNat) (σ.addRow ⟨s, List.replicate n.toNat d⟩)

def stored (ops : Array Oper) (dst : Option Tmp) : Bool :=
  ops.toList.any fun o => match o.op with | .store _ _ (.tmp t) => dst == some t | _ => false

def awOp (P : Program) (ops : Array Oper) (o : Oper) (σ : St) (K : St → Prop) : Prop :=
  match o.op with
  | .call c => match c.callee with
    | .builtin b => match b with
      | .append => match c.args.toList, c.argTypes.toList with
        | [s, x], [t, t'] => t' = t ∧ apK P σ t (σ.eval s) (σ.eval x) fun v σ' => K (σ'.put o.dst v)
        | _, _ => False
      | _ => evE P o.op σ fun v => K (σ.put o.dst v)
    | _ => Loud P o σ K
  | .alloc t => zbK P t fun z _ => K ((σ.addBox (constV z)).put o.dst (.p σ.bx.length 0))
  | .box _ x => (σ.eval x).cells.all V.one = true ∧ K ((σ.addBox (σ.eval x)).put o.dst (.p σ.bx.length 0))
  | .store t ad x => stK P t σ (σ.eval ad) (σ.eval x) fun σ' => K (σ'.put o.dst junk)
  | .makeSlice t l c => mkK P σ t (σ.eval l) (σ.eval c) fun v σ' => K (σ'.put o.dst v)
  | .buildSlice t len ps => bsK P t len ps.toList σ fun n ds => match stored ops o.dst with
    | true => K ((σ.addRow ⟨n, ds⟩).put o.dst (.o σ.rw.length 0 len))
    | false => K (σ.put o.dst (.d (.l ds)))
  | _ => evE P o.op σ fun v => K (σ.put o.dst v)

theorem ev_loud {o : Oper} {σ : St} {K : St → Prop} (h : evE P o.op σ fun v => K (σ.put o.dst v)) : Loud P o σ K := by
  obtain ⟨v, hv, h2⟩ := evE_det _ h
  exact (quiet_of_ev h2).loud hv

theorem alloc_loud {o : Oper} {σ : St} {K : St → Prop} {t : TypeId} (ho : o.op = .alloc t) (h : zbK P t fun z _ => K ((σ.addBox (constV z)).put o.dst (.p σ.bx.length 0))) : Loud P o σ K := by
  rintro E a w K' Q he ⟨μ, hr⟩ hk
  obtain ⟨z, b, hzb, hK⟩ := h
  have hz : (zeroValue t).run P w = .ok z w := by
    unfold zbOf at hzb
    split at hzb
    · rename_i i hi
      split at hzb
      · rename_i z' hz'
        simp only [Option.some.injEq, Prod.mk.injEq] at hzb
        simp [zeroValue, typeInfo, hi, hz', hzb.1]
      · cases hzb
    · cases hzb
  obtain ⟨c1, c2⟩ := constV_cells z
  obtain ⟨g1, g2⟩ := hr.newBox (C := z.cells) (et := t) (x := constV z) c1.symm (fun k y u hy hu => c2 k y u hy hu)
  refine wpIn_of_run (by rw [ho]; simp) (w' := w.alloc (.cells z.cells t)) (u := .pointer (some ⟨w.heap.size, 0, none⟩)) ?_ (hk _ _ _ hK ⟨_, g1.put o.dst g2⟩)
  simp [execOp, ho, Instr.alloc, hz, newVar, newRow]

theorem box_loud {o : Oper} {σ : St} {K : St → Prop} {t : TypeId} {x : Operand} (ho : o.op = .box t x) (h1 : (σ.eval x).cells.all V.one = true) (hK : K ((σ.addBox (σ.eval x)).put o.dst (.p σ.bx.length 0))) : Loud P o σ K := by
  rintro E a w K' Q he ⟨μ, hr⟩ hk
  obtain ⟨c1, c2⟩ := cells_relV (hr.eval x) h1
  obtain ⟨g1, g2⟩ := hr.newBox (C := (a.eval x).cells) (et := t) (x := σ.eval x) c1 (fun k y u hy hu => (c2 k y u hy hu).1)
  refine wpIn_of_run (by rw [ho]; simp) (w' := w.alloc (.cells (a.eval x).cells t)) (u := .pointer (some ⟨w.heap.size, 0, none⟩)) ?_ (hk _ _ _ hK ⟨_, g1.put o.dst g2⟩)
  simp [execOp, ho, Instr.box, newVar, newRow]

theorem store_loud {o : Oper} {σ : St} {K : St → Prop} {t : TypeId} {ad x : Operand} (ho : o.op = .store t ad x) (h : stK P t σ (σ.eval ad) (σ.eval x) fun σ' => K (σ'.put o.dst junk)) : Loud P o σ K := by
  rintro E a w K' Q he ⟨μ, hr⟩ hk
  have had := hr.eval ad
  have hx := hr.eval x
  unfold stK at h
  split at h
  · rename_i b sub heq
    rw [heq] at had
    obtain ⟨hb, had⟩ := had
    obtain ⟨g, n, ht, ⟨rfl, h1, h2, h3⟩, hK⟩ := h
    obtain ⟨w', hrun, hr'⟩ := hr.storeBox (P := P) hb ht hx h1 h2 h3
    exact wpIn_of_skip (by rw [ho]; simp) (by simp [execOp, ho, had, hrun]) (hk _ _ _ hK ⟨_, hr'.put o.dst (.c undef)⟩)
  · rename_i r i sub heq
    rw [heq] at had
    obtain ⟨_, had⟩ := had
    obtain ⟨row, hrow, g, n, ht, h⟩ := rwK_inv h
    obtain ⟨d, hd, ⟨rfl, rfl, h1, h2⟩, hK⟩ := dK_inv h hx
    obtain ⟨hi, b, sh, hm, had⟩ := had row hrow
    obtain ⟨w', hrun, hr'⟩ := hr.storeRow (P := P) hrow hm hi ht hd h1 h2
    exact wpIn_of_skip (by rw [ho]; simp) (by simp [execOp, ho, had, hrun]) (hk _ _ _ hK ⟨_, hr'.put o.dst (.c undef)⟩)
  · exact h.elim

theorem append_loud {o : Oper} {σ : St} {K : St → Prop} {t : TypeId} {s x : Operand} (ho : o.op = .call { callee := .builtin .append, args := #[s, x], argTypes := #[t, t] }) (h : apK P σ t (σ.eval s) (σ.eval x) fun v σ' => K (σ'.put o.dst v)) : Loud P o σ K := by
  rintro E a w K' Q he ⟨μ, hr⟩ hk
  obtain ⟨e, hes, g, n, hg, z, b, hzb, ⟨h0, hzs⟩, h⟩ := h
  obtain ⟨i, hi, hiz, hib, his⟩ := zb_inv hzb hg
  obtain ⟨ys, A, c, ⟨hys, h⟩, hsv, hsrc⟩ := src_sound hr h (hr.eval x)
  have hund : P.underlying t = some (.slice e) := by
    unfold slE at hes
    split at hes
    · rename_i e' he'; cases hes; exact he'
    · cases hes
  have fin : ∀ {σ1 : St} {μ1 : Map} {r off len : Nat} {row : Row} {news : List Value}, Rel E σ1 μ1 a w → σ1.rw[r]? = some (some row) → (ys = [] → off = 0) → row.sz = n → off + len = row.xs.length → (len + ys.length) * b ≤ 140737488355328 → len + ys.length ≤ 140737488355328 →
      RelV E w μ1 σ1 (.o r off len) (a.eval s) → Src w (Fz E w μ1 σ1) n ys A news → K ((σ1.app r ⟨n, row.xs.drop off ++ ys⟩).put o.dst (.o r 0 (len + ys.length))) → o.wpIn (FW E.ro) 0 P a w K' Q := by
    intro σ1 μ1 r off len row news hr1 hrow hne hsz hend hb1 hb2 hv hs hK
    obtain ⟨v', w', μ', hrun, h1, h2⟩ := append_sound (P := P) (ty := o.type) hr1 hund hi hiz (by rw [hzs, his]) (by omega) (by rw [hsz, his]) hrow hv hend hne (fun y hy => by rw [his]; exact hys y hy) (by rw [his]; exact hs) (c := c) (by rw [hib]; omega) (by omega)
    rw [hsz] at h1 h2
    refine wpIn_of_run (by rw [ho]; simp) (w' := w') (u := v') ?_ (hk _ _ _ hK ⟨_, h1.put o.dst h2⟩)
    simp [execOp, ho, resolve, invoke, builtin, hsv, hrun]
  split at h
  · rename_i heq
    obtain ⟨⟨hb1, hb2⟩, hK⟩ := h
    have hv := hr.eval s
    rw [heq] at hv
    obtain hv : a.eval s = .slice none 0 0 := hv
    obtain ⟨g1, g2, g3⟩ := hr.newNil n
    obtain ⟨news, hs⟩ := hsrc h0 hys
    have hs' : Src w (Fz E w (μ.row σ.rw.length none) { σ with rw := σ.rw ++ [some (Row.mk n [])] }) n ys A news :=
      ⟨hs.len, hs.none, hs.cell, fun i k x y u hx hy hu => (hs.rel i k x y u hx hy hu).mono (fun b hb => ⟨g3 b hb, .inl rfl⟩), hs.one⟩
    refine fin (r := σ.rw.length) (row := ⟨n, []⟩) (off := 0) (len := 0) g1 (by simp) (fun _ => rfl) rfl rfl (by rw [Nat.zero_add]; exact hb1) (by omega) (by rw [hv]; exact g2) hs' ?_
    simpa [St.addRow] using hK
  · rename_i r off len heq
    obtain ⟨row, hrow, ⟨hne, hsz, hend, hb1, hb2⟩, hK⟩ := rwK_inv h
    obtain ⟨news, hs⟩ := hsrc h0 hys
    exact fin hr hrow hne hsz hend hb1 hb2 (by rw [← heq]; exact hr.eval s) hs hK
  · rename_i xs heq
    obtain ⟨⟨hxs, hy0, hb1, hb2⟩, hK⟩ := h
    obtain ⟨news, hs⟩ := hsrc h0 hys
    have hv := hr.eval s
    rw [heq] at hv
    obtain ⟨v', w', μ', hrun, h1, h2⟩ := tight_sound (P := P) (ty := o.type) (c := c) hr hund hi hiz (by rw [hzs, his]) (by omega) (show RelD w (Fz E w μ σ) (.tight xs) (a.eval s) from hv) (fun y hy => by rw [his]; exact hxs y hy) hy0 (fun y hy => by rw [his]; exact hys y hy) (by rw [his]; exact hs) (by rw [hib]; omega) (by omega)
    rw [his] at h1 h2
    refine wpIn_of_run (by rw [ho]; simp) (w' := w') (u := v') ?_ (hk _ _ _ hK ⟨_, h1.put o.dst h2⟩)
    simp [execOp, ho, resolve, invoke, builtin, hsv, hrun]
  · exact h.elim

theorem make_loud {o : Oper} {σ : St} {K : St → Prop} {t : TypeId} {l c : Operand} (ho : o.op = .makeSlice t l c) (h : mkK P σ t (σ.eval l) (σ.eval c) fun v σ' => K (σ'.put o.dst v)) : Loud P o σ K := by
  rintro E a w K' Q he ⟨μ, hr⟩ hk
  obtain ⟨k, n, hl, h1⟩ := iK_inv h
  obtain ⟨k', n', hc, e, hes, g, s, hg, z, b, hzb, ⟨rfl, rfl, rfl, hn0, hn1, hb, hs, hzs⟩, h2⟩ := iK_inv h1
  obtain ⟨i, hi, hiz, hib, his⟩ := zb_inv hzb hg
  have hlv := hr.eval l
  have hcv := hr.eval c
  rw [hl] at hlv
  rw [hc] at hcv
  have hlv := rel_c hlv
  have hcv := rel_c hcv
  obtain ⟨m, hm⟩ := Int.eq_ofNat_of_zero_le hn0
  have hz0 : RelV E w μ σ (constV z) z := rel_const z
  obtain ⟨d, hd, ⟨hdl, hd1⟩, hK⟩ := dK_inv h2 hz0
  obtain ⟨q1, q2⟩ := cells_rel hd hd1
  have hund : P.underlying t = some (.slice e) := by
    unfold slE at hes
    split at hes
    · rename_i e' he'; cases hes; exact he'
    · cases hes
  subst hm
  have hmb : b * m ≤ 1048576 * 1048576 := Nat.mul_le_mul hb (by omega)
  have hbm : (b : Int) * (m : Int) = ((b * m : Nat) : Int) := by simp
  have hrun := run_make (P := P) w t e i z hund hi hiz .i64 .i64 (m : Int) (m : Int) hn0 (Int.le_refl _) (by rw [hib, hbm]; omega) (by omega)
  rw [Int.toNat_natCast] at hrun hK
  have hCs := size_madeCells z.cells (m * i.size)
  have hCg : ∀ j k, j < m → k < s → (madeCells z.cells (m * i.size))[j * s + k]? = z.cells[k]? := fun j k hj hk => by
    have hlt : j * s + k < m * s := by
      have : (j + 1) * s ≤ m * s := Nat.mul_le_mul_right _ hj
      rw [Nat.succ_mul] at this
      omega
    have hmod : (j * s + k) % s = k := by rw [Nat.mul_comm, Nat.mul_add_mod, Nat.mod_eq_of_lt hk]
    have hkz : k < z.cells.size := by omega
    have e1 : (madeCells z.cells (m * i.size))[j * s + k]? = some (z.cells[(j * s + k) % z.cells.size]!) := by
      have : j * s + k < (madeCells z.cells (m * i.size)).size := by rw [size_madeCells, his]; exact hlt
      rw [Array.getElem?_eq_getElem this]
      simp [madeCells]
    rw [e1, hzs, hmod, getElem!_pos z.cells k hkz, getElem?_pos z.cells k hkz]
  obtain ⟨g1, g2⟩ := hr.newRow (C := madeCells z.cells (m * i.size)) (et := e) (row := ⟨s, List.replicate m d⟩) hs (fun x hx => by rw [List.eq_of_mem_replicate hx]; exact hdl) (by rw [hCs, his]; simp) (fun j k x y u hx hy hu => by
    have hj : j < m := by have := (List.getElem?_eq_some_iff.1 hx).1; simpa using this
    have hxd : x = d := List.eq_of_mem_replicate (List.mem_of_getElem? hx)
    subst hxd
    have hk : k < s := by rw [← hdl]; exact (List.getElem?_eq_some_iff.1 hy).1
    rw [hCg j k hj hk] at hu
    exact (q2 k y u hy hu).1)
  have g3 := g2 m (by simp) (by rw [hCs, his]; exact Nat.le_refl _)
  simp only [List.length_replicate] at g3
  refine wpIn_of_run (by rw [ho]; simp) (w' := w.alloc (.cells (madeCells z.cells (m * i.size)) e)) (u := .slice (some ⟨w.heap.size, 0, none⟩) m m) ?_ (hk _ _ _ hK ⟨_, g1.put o.dst g3⟩)
  simp [execOp, ho, hlv, hcv, hrun]

theorem awOp_loud {ops : Array Oper} {o : Oper} {σ : St} {K : St → Prop} (h : awOp P ops o σ K) : Loud P o σ K := by
  unfold awOp at h
  split at h
  · rename_i c heq
    split at h
    · rename_i b hcb
      split at h
      · split at h
        · rename_i s x t t' h1 h2
          obtain ⟨rfl, h⟩ := h
          refine append_loud (s := s) (x := x) (t := t') ?_ h
          obtain ⟨callee, ⟨args⟩, ⟨ts⟩⟩ := c
          simp only at hcb h1 h2
          subst hcb h1 h2
          exact heq
        · exact h.elim
      · exact ev_loud h
    · exact h
  · rename_i t heq
    exact alloc_loud heq h
  · rename_i t x heq
    exact box_loud heq h.1 h.2
  · rename_i t ad x heq
    exact store_loud heq h
  · rename_i t l c heq
    exact make_loud heq h
  · rename_i t len ps heq
    rintro E a w K' Q he ⟨μ, hr⟩ hk
    cases hst : stored ops o.dst with
    | false =>
      rw [hst] at h
      obtain ⟨n, ds, hK, hq⟩ := buildSlice_quiet heq h
      exact hq.loud hK E a w K' Q he ⟨μ, hr⟩ hk
    | true =>
      rw [hst] at h
      obtain ⟨n, ds, C, e, hK, hl, hn, hsz, hC, hrun, hrel⟩ := buildSlice_sound h (a := a) hr.eval
      obtain ⟨g1, g2⟩ := hr.newRow (C := C) (et := e) (row := ⟨n, ds⟩) hn hsz (by rw [hC, hl]; exact Nat.le_refl _) hrel
      have g3 := g2 len (by rw [hl]; exact Nat.le_refl _) (by rw [hC]; exact Nat.le_refl _)
      simp only [hl] at g3
      have hps : ps.map (fun p => (p.1, a.eval p.2)) = (ps.toList.map fun p => (p.1, a.eval p.2)).toArray := Array.ext' (by simp)
      exact wpIn_of_run (by rw [heq]; simp) (by simp only [execOp, heq]; rw [Sem.run_bind, show (ps.map fun x => match x with | (i, x) => (i, a.eval x)) = (ps.toList.map fun p => (p.1, a.eval p.2)).toArray from hps, hrun]; rfl) (hk _ _ _ hK ⟨_, g1.put o.dst g3⟩)
  · exact ev_loud h
end Go.Aw

namespace Go.Aw
open Go.RowKit
variable {P : Program}

def awOps (P : Program) (ops : Array Oper) : List Oper → St → (St → Prop) → Prop
  | [], σ, K => K σ
  | o :: os, σ, K => match o.guard with
    | none => awOp P ops o σ fun σ' => awOps P ops os σ' K
    | some gw => gdK (gval ops σ gw.1) gw.2 (awOp P ops o σ fun σ' => awOps P ops os σ' K) (awOps P ops os (σ.put o.dst junk) K)

theorem awOps_sound {ops : Array Oper} : ∀ (l : List Oper) {σ : St} {K : St → Prop}, awOps P ops l σ K → ∀ (E : Env) (a : Act) (w : World) (Q : Exit → Act → World → Prop), EOK P E → RelS E σ a w →
    (∀ σ' a' w', K σ' → RelS E σ' a' w' → Q .normal a' w') → wpListIn (FW E.ro) 0 P ops Q l a w := by
  intro l
  induction l with
  | nil => intro σ K h E a w Q he hr hQ; exact hQ σ a w h hr
  | cons o os ih =>
    intro σ K h E a w Q he hr hQ
    unfold awOps at h
    unfold wpListIn
    split at h
    · rename_i hg
      rw [if_pos (by simp [Region.wanted, hg])]
      exact awOp_loud h E a w _ Q he hr (fun σ' a' w' h' hr' => ih h' E a' w' Q he hr' hQ)
    · rename_i gw hg
      obtain ⟨μ, hr⟩ := hr
      obtain ⟨g, want⟩ := gw
      rcases gdK_inv h with ⟨h1, h2⟩ | ⟨⟨c, h1, _, h3⟩, h2⟩
      · have hy := yielded_of hr.tm h1
        rw [if_pos (by simp [Region.wanted, hg, hy])]
        exact awOp_loud h2 E a w _ Q he ⟨μ, hr⟩ (fun σ' a' w' h' hr' => ih h' E a' w' Q he hr' hQ)
      · have hy := yielded_of hr.tm h1
        have : Region.wanted o (yielded ops a.tmps) = false := by
          simp only [Region.wanted, hg, hy]
          cases c <;> simp
          exact h3 _ rfl
        rw [if_neg (by rw [this]; simp)]
        exact ⟨fun _ _ => trivial, ih h2 E _ w Q he ⟨μ, hr.put o.dst (.c _)⟩ hQ⟩

def awH (P : Program) (ops : Array Oper) : List Oper → St → (St → Prop) → Prop
  | [], σ, K => K σ
  | o :: os, σ, K => match (isLoud o.op) with
    | true => awOps P ops (o :: os) σ K
    | false => match o.guard with
      | none => awQ P o σ fun v => awH P ops os (σ.put o.dst v) K
      | some gw => gdK (gval ops σ gw.1) gw.2 (awQ P o σ fun v => awH P ops os (σ.put o.dst v) K) (awH P ops os (σ.put o.dst junk) K)

/-- How many operations stand ahead of the first loud one. -/
def headN (ops : Array Oper) : Nat := (ops.toList.takeWhile fun o => !(isLoud o.op)).length

theorem headN_spec (ops : Array Oper) : (∀ i o, i < headN ops → ops[i]? = some o → (isLoud o.op) = false) ∧ (∀ o, ops[headN ops]? = some o → (isLoud o.op) = true) := by
  obtain ⟨l⟩ := ops
  unfold headN
  simp only
  induction l with
  | nil => exact ⟨fun i o hi => by simp at hi, fun o ho => by simp at ho⟩
  | cons x l ih =>
    by_cases hx : (isLoud x.op) = true
    · refine ⟨fun i o hi => ?_, fun o ho => ?_⟩
      · simp [hx] at hi
      · simp [hx] at ho
        rw [← ho]; exact hx
    · have hx' : (isLoud x.op) = false := by simpa using hx
      obtain ⟨h1, h2⟩ := ih
      refine ⟨fun i o hi ho => ?_, fun o ho => ?_⟩
      · simp only [List.takeWhile_cons, hx', Bool.not_false, if_true, List.length_cons] at hi
        cases i with
        | zero => simp at ho; rw [← ho]; exact hx'
        | succ i => exact h1 i o (by omega) (by simpa using ho)
      · simp only [List.takeWhile_cons, hx', Bool.not_false, if_true, List.length_cons] at ho
        exact h2 o (by simpa using ho)

theorem head_run {ops : Array Oper} {n : Nat} (hD : DrawOK ops n) (hq : ∀ i o, i < n → ops[i]? = some o → (isLoud o.op) = false) {σ : St} {K : St → Prop} (h : awH P ops ops.toList σ K) :
    ∀ i, i ≤ n → ∃ v, (∀ k, k < i → HeadAt P ops n σ v k) ∧ awH P ops (ops.toList.drop i) { σ with tm := tmL ops n v σ.tm (fun k => decide (k < i)) } K := by
  intro i
  induction i with
  | zero =>
    intro _
    refine ⟨fun _ => .j, fun k hk => by omega, ?_⟩
    rw [tmL_none _ _ _ (fun k _ => by simp)]
    exact h
  | succ i ih =>
    intro hi
    obtain ⟨v, hv, hrun⟩ := ih (by omega)
    have hlt : i < ops.toList.length := by have := hD.le; simp; omega
    rw [List.drop_eq_getElem_cons hlt] at hrun
    have ho : ops[i]? = some ops.toList[i] := by rw [← Array.getElem?_toList]; exact List.getElem?_eq_getElem hlt
    generalize ops.toList[i] = o at ho hrun
    have hloud := hq i o (by omega) ho
    unfold awH at hrun
    rw [hloud] at hrun
    have hdst : dstOf ops i = o.dst := by simp [dstOf, ho]
    -- on with one value more
    have next : ∀ x : V, awH P ops (ops.toList.drop (i + 1)) (St.put { σ with tm := tmL ops n v σ.tm (fun k => decide (k < i)) } o.dst x) K →
        (∀ v', (∀ k, k < i → v' k = v k) → v' i = x → HeadAt P ops n σ v' i) → ∃ v', (∀ k, k < i + 1 → HeadAt P ops n σ v' k) ∧ awH P ops (ops.toList.drop (i + 1)) { σ with tm := tmL ops n v' σ.tm (fun k => decide (k < i + 1)) } K := by
      intro x hrun' hx
      let v' : Nat → V := fun k => if k = i then x else v k
      have hvv : ∀ j, j ≤ i → tmL ops n v' σ.tm (fun k => decide (k < j)) = tmL ops n v σ.tm (fun k => decide (k < j)) := fun j hj => by
        apply List.ext_getElem?
        intro t
        rw [tmL_get, tmL_get]
        congr 1
        funext y
        cases hf : (List.range n).find? (fun k => decide (k < j) && (dstOf ops k == some t)) with
        | none => rfl
        | some k =>
          have := List.find?_some hf
          simp at this
          simp only [v']
          rw [if_neg (by omega)]
      refine ⟨v', fun k hk => ?_, ?_⟩
      · by_cases hki : k = i
        · subst hki
          exact hx v' (fun j hj => by simp only [v']; rw [if_neg (by omega)]) (by simp [v'])
        · have := hv k (by omega)
          unfold HeadAt at this ⊢
          rw [hvv k (by omega), show v' k = v k by simp [v', hki]]
          exact this
      · have e : (fun k => decide (k < i + 1)) = fun k => decide (k < i) || k == i := by
          funext k
          by_cases h1 : k < i
          · simp [h1]; omega
          · by_cases h2 : k = i
            · simp [h2]
            · have : (k == i) = false := by simp; exact h2
              simp [h1, this]; omega
        rw [e, tmL_step (v := v') (tm := σ.tm) (L := fun k => decide (k < i)) (by omega) hD.dist, hvv i (Nat.le_refl _), hdst, show v' i = x by simp [v']]
        cases hd : o.dst with
        | none => rw [hd] at hrun'; exact hrun'
        | some d => rw [hd] at hrun'; exact hrun'
    have hsame : ∀ v', (∀ k, k < i → v' k = v k) → tmL ops n v' σ.tm (fun k => decide (k < i)) = tmL ops n v σ.tm (fun k => decide (k < i)) := fun v' hv' => by
      apply List.ext_getElem?
      intro t
      rw [tmL_get, tmL_get]
      congr 1
      funext y
      cases hf : (List.range n).find? (fun k => decide (k < i) && (dstOf ops k == some t)) with
      | none => rfl
      | some k =>
        have := List.find?_some hf
        simp at this
        exact hv' k this.1
    cases hg : o.guard with
    | none =>
      rw [hg] at hrun
      obtain ⟨x, h1, h2⟩ := awQ_inv hrun
      refine next x h1 (fun v' hv' hx o' ho' => ?_)
      rw [ho] at ho'
      cases ho'
      rw [hg]
      simp only
      rw [hsame v' hv', hx]
      exact h2
    | some gw =>
      rw [hg] at hrun
      obtain ⟨g, want⟩ := gw
      rcases gdK_inv hrun with ⟨h1, h2⟩ | ⟨h1, h2⟩
      · obtain ⟨x, h3, h4⟩ := awQ_inv h2
        refine next x h3 (fun v' hv' hx o' ho' => ?_)
        rw [ho] at ho'
        cases ho'
        rw [hg]
        simp only
        rw [hsame v' hv', hx]
        exact .inl ⟨h1, h4⟩
      · refine next junk h2 (fun v' hv' hx o' ho' => ?_)
        rw [ho] at ho'
        cases ho'
        rw [hg]
        simp only
        rw [hsame v' hv', hx]
        exact .inr ⟨h1, rfl⟩

theorem awH_end {ops : Array Oper} {n : Nat} (hl : ∀ o, ops[n]? = some o → (isLoud o.op) = true) {σ : St} {K : St → Prop} (h : awH P ops (ops.toList.drop n) σ K) : awOps P ops (ops.toList.drop n) σ K := by
  by_cases hlt : n < ops.toList.length
  · rw [List.drop_eq_getElem_cons hlt] at h ⊢
    have ho : ops[n]? = some ops.toList[n] := by rw [← Array.getElem?_toList]; exact List.getElem?_eq_getElem hlt
    unfold awH at h
    rw [hl _ ho] at h
    exact h
  · rw [List.drop_eq_nil_of_le (by omega)] at h ⊢
    exact h

theorem region_sound {id : Nat} {ops : Array Oper} {Q : Exit → St → Prop} {σ : St} (h : awOps P ops ops.toList σ (Q .normal)) : AW P (.region id ops false) Q σ :=
  fun E a w he hr => wpIn_region_list (awOps_sound _ h E a w _ he hr (fun σ' _ _ h' hr' => ⟨σ', h', hr'⟩))

theorem RelS.later {E : Env} {σ : St} {a : Act} {w w' : World} (h : RelS E σ a w) (hs : Stp (fun _ => False) w w') : RelS E σ a w' := let ⟨μ, hr⟩ := h; ⟨μ, hr.later hs⟩

theorem draw_sound {id : Nat} {ops : Array Oper} {Q : Exit → St → Prop} {σ : St} (hm : P.follows .mixedOrders = true) (hok : drawOK ops (headN ops) = true) (h : awH P ops ops.toList σ (Q .normal)) : AW P (.region id ops true) Q σ := by
  intro E a w he hr
  have hD := drawOK_of hok
  obtain ⟨s1, s2⟩ := headN_spec ops
  obtain ⟨v, hv, hrun⟩ := head_run hD s1 h (headN ops) (Nat.le_refl _)
  have hrun := awH_end s2 hrun
  refine wpIn_region_any hm (head_any (E := E) hD he hv (fun a' w' hr' => ?_) ops.size _ a _ ?_ ?_ ?_)
  · have := awOps_sound _ hrun E a' w' (lift E Q) he hr' (fun σ' _ _ h' hr' => ⟨σ', h', hr'⟩)
    have e := wpOpsIn_eq_wpListIn (F := FW E.ro) (n := 0) (P := P) (ops := ops) (Q := lift E Q) (ops.toList.drop (headN ops)) (headN ops) (fun j => by rw [List.getElem?_drop, Array.getElem?_toList])
    have hl : (ops.toList.drop (headN ops)).length = ops.size - headN ops := by simp
    rw [hl] at e
    rw [e]
    exact this
  · exact ⟨by simp, fun j oj _ hl => (by rw [getD_replicate_false] at hl; cases hl), fun t _ ht => (by simp [ht])⟩
  · have := List.length_filter_le (fun k => !(Array.replicate ops.size false).getD k false) (List.range ops.size)
    simpa using this
  · rw [tmL_none _ _ _ (fun k _ => getD_replicate_false _ _)]
    exact hr.later (Stp.drew w)

def Qseq (K : St → Prop) (Q : Exit → St → Prop) : Exit → St → Prop
  | .normal, σ => K σ
  | e, σ => Q e σ
def Qblk (id : Nat) (Q : Exit → St → Prop) : Exit → St → Prop
  | .exit id', σ => if id' = id then Q .normal σ else Q (.exit id') σ
  | e, σ => Q e σ

/-- The walk over a code. -/
def aw (P : Program) : Code → (Exit → St → Prop) → St → Prop
  | .skip, Q, σ => Q .normal σ
  | .label _, Q, σ => Q .normal σ
  | .region id ops dr, Q, σ => match dr with
    | false => awOps P ops ops.toList σ (Q .normal)
    | true => AW P (.region id ops true) Q σ
  | .seq x y, Q, σ => aw P x (Qseq (aw P y Q) Q) σ
  | .cond c x y, Q, σ => bK (σ.eval c) fun t => (t = true → aw P x Q σ) ∧ (t = false → aw P y Q σ)
  | .block id c, Q, σ => aw P c (Qblk id Q) σ
  | .exit id, Q, σ => Q (.exit id) σ
  | .ret, Q, σ => Q .ret σ
  | .loop c, Q, σ => AW P (.loop c) Q σ
  | .rangeFunc f ps asg b, Q, σ => AW P (.rangeFunc f ps asg b) Q σ
  | .scope _, _, _ => False
  | .goto _, _, _ => False
  | .refuse _, _, _ => False

theorem AW.mono {c : Code} {Q Q' : Exit → St → Prop} {σ : St} (h : AW P c Q σ) (hq : ∀ e σ, Q e σ → Q' e σ) : AW P c Q' σ :=
  fun E a w he hr => wpIn_mono (h E a w he hr) (fun e _ _ ⟨σ', h1, h2⟩ => ⟨σ', hq e σ' h1, h2⟩)

theorem aw_sound : ∀ (c : Code) {Q : Exit → St → Prop} {σ : St}, aw P c Q σ → AW P c Q σ := by
  intro c
  induction c with
  | skip => intro Q σ h E a w he hr; exact wpIn_skip ⟨σ, h, hr⟩
  | label l => intro Q σ h E a w he hr; exact wpIn_label ⟨σ, h, hr⟩
  | region id ops dr =>
    intro Q σ h
    cases dr with
    | false => exact region_sound h
    | true => exact h
  | seq x y ihx ihy =>
    intro Q σ h E a w he hr
    refine wpIn_seq (wpIn_mono (ihx h E a w he hr) ?_)
    rintro e a' w' ⟨σ', h1, h2⟩
    cases e with
    | normal => exact ihy h1 E a' w' he h2
    | _ => exact ⟨σ', h1, h2⟩
  | cond c x y ihx ihy =>
    intro Q σ h E a w he hr
    obtain ⟨t, ht, h1, h2⟩ := bK_inv h
    obtain ⟨μ, hr⟩ := hr
    have hc := hr.eval c
    rw [ht] at hc
    have hc := rel_c hc
    cases t with
    | true => exact wpIn_cond_true hc (ihx (h1 rfl) E a w he ⟨μ, hr⟩)
    | false => exact wpIn_cond_false hc (ihy (h2 rfl) E a w he ⟨μ, hr⟩)
  | block id c ih =>
    intro Q σ h E a w he hr
    refine wpIn_block (wpIn_mono (ih h E a w he hr) ?_)
    rintro e a' w' ⟨σ', h1, h2⟩
    cases e with
    | exit id' =>
      simp only [Exit.inBlock]
      by_cases hi : id' = id
      · rw [if_pos hi]
        simp only [Qblk, if_pos hi] at h1
        exact ⟨σ', h1, h2⟩
      · rw [if_neg hi]
        simp only [Qblk, if_neg hi] at h1
        exact ⟨σ', h1, h2⟩
    | _ => exact ⟨σ', h1, h2⟩
  | exit id => intro Q σ h E a w he hr; exact wpIn_exit ⟨σ, h, hr⟩
  | ret => intro Q σ h E a w he hr; exact wpIn_ret ⟨σ, h, hr⟩
  | loop c _ => intro Q σ h; exact h
  | rangeFunc f ps asg b _ _ => intro Q σ h; exact h
  | scope b _ => intro Q σ h; exact h.elim
  | goto l => intro Q σ h; exact h.elim
  | refuse w => intro Q σ h; exact h.elim
end Go.Aw

namespace Go.Aw
open Go.RowKit
variable {P : Program}

def V.bd (nb nr : Nat) : V → Prop
  | .o r _ _ => r < nr
  | .e r _ _ => r < nr
  | .p b _ => b < nb
  | .fp _ ps => ∀ b ∈ ps, b < nb
  | _ => True

/-- y says no more than x. -/
def LeV (nb nr : Nat) (x y : V) : Prop :=
  match y with
  | .j => True
  | y => x = y ∧ y.bd nb nr
def LeL (nb nr : Nat) : List V → List V → Prop
  | [], [] => True
  | x :: xs, y :: ys => LeV nb nr x y ∧ LeL nb nr xs ys
  | _, _ => False
def LeB (nb nr : Nat) : List V → List V → Prop
  | _, [] => True
  | x :: xs, y :: ys => (x = y ∧ y.bd nb nr) ∧ LeB nb nr xs ys
  | [], _ :: _ => False
def LeR : List (Option Row) → List (Option Row) → Prop
  | _, [] => True
  | x :: xs, y :: ys => (match y with | none => True | some y => x = some y) ∧ LeR xs ys
  | [], _ :: _ => False
def Le (σ σ' : St) : Prop := LeL σ'.bx.length σ'.rw.length σ.tm σ'.tm ∧ LeB σ'.bx.length σ'.rw.length σ.bx σ'.bx ∧ LeR σ.rw σ'.rw ∧ LeL σ'.bx.length σ'.rw.length σ.gh σ'.gh ∧ σ'.fx = []

theorem LeV.inv {nb nr : Nat} {x y : V} (h : LeV nb nr x y) : y = .j ∨ (x = y ∧ y.bd nb nr) := by
  unfold LeV at h
  split at h
  · exact .inl rfl
  · exact .inr h
theorem LeL.inv {nb nr : Nat} : ∀ {xs ys : List V}, LeL nb nr xs ys → xs.length = ys.length ∧ ∀ (k : Nat) (y : V), ys[k]? = some y → y = .j ∨ (xs[k]? = some y ∧ y.bd nb nr) := by
  intro xs
  induction xs with
  | nil => intro ys h; cases ys with
    | nil => exact ⟨rfl, fun k y hy => by simp at hy⟩
    | cons y ys => exact h.elim
  | cons x xs ih => intro ys h; cases ys with
    | nil => exact h.elim
    | cons y ys =>
      obtain ⟨h1, h2⟩ := h
      obtain ⟨g1, g2⟩ := ih h2
      refine ⟨by simp [g1], fun k z hz => ?_⟩
      cases k with
      | zero =>
        simp at hz; subst hz
        rcases h1.inv with e | ⟨e, hb⟩
        · exact .inl e
        · exact .inr ⟨by simp [e], hb⟩
      | succ k => simpa using g2 k z (by simpa using hz)
theorem LeB.inv {nb nr : Nat} : ∀ {xs ys : List V}, LeB nb nr xs ys → ys.length ≤ xs.length ∧ ∀ (k : Nat) (y : V), ys[k]? = some y → xs[k]? = some y ∧ y.bd nb nr := by
  intro xs
  induction xs with
  | nil => intro ys h; cases ys with
    | nil => exact ⟨Nat.le_refl _, fun k y hy => by simp at hy⟩
    | cons y ys => exact h.elim
  | cons x xs ih => intro ys h; cases ys with
    | nil => exact ⟨Nat.zero_le _, fun k y hy => by simp at hy⟩
    | cons y ys =>
      obtain ⟨h1, h2⟩ := h
      obtain ⟨g1, g2⟩ := ih h2
      refine ⟨by simp; exact g1, fun k z hz => ?_⟩
      cases k with
      | zero => simp at hz; subst hz; exact ⟨by simp [h1.1], h1.2⟩
      | succ k => simpa using g2 k z (by simpa using hz)
theorem LeR.inv : ∀ {xs ys : List (Option Row)}, LeR xs ys → ys.length ≤ xs.length ∧ ∀ (k : Nat) (y : Row), ys[k]? = some (some y) → xs[k]? = some (some y) := by
  intro xs
  induction xs with
  | nil => intro ys h; cases ys with
    | nil => exact ⟨Nat.le_refl _, fun k y hy => by simp at hy⟩
    | cons y ys => exact h.elim
  | cons x xs ih => intro ys h; cases ys with
    | nil => exact ⟨Nat.zero_le _, fun k y hy => by simp at hy⟩
    | cons y ys =>
      obtain ⟨h1, h2⟩ := h
      obtain ⟨g1, g2⟩ := ih h2
      refine ⟨by simp; exact g1, fun k z hz => ?_⟩
      cases k with
      | zero => simp at hz; subst hz; simpa using h1
      | succ k => simpa using g2 k z (by simpa using hz)

theorem RelV.le {E : Env} {w : World} {μ : Map} {σ σ' : St} (ho : ∀ b, Own μ σ' b → Own μ σ b) (hR : ∀ (k : Nat) (y : Row), σ'.rw[k]? = some (some y) → σ.rw[k]? = some (some y))
    {x : V} {u : Value} (hx : x.bd σ'.bx.length σ'.rw.length) (h : RelV E w μ σ x u) : RelV E w μ σ' x u := by
  have hp : ∀ {b sub : Nat} {u : Value}, b < σ'.bx.length → RelP μ σ b sub u → RelP μ σ' b sub u := fun hlt h => ⟨hlt, h.2⟩
  cases x with
  | d x => exact RelD.mono (fun b hb => ⟨⟨hb.1, hb.2.1, fun h' => hb.2.2 (ho b h')⟩, .inl rfl⟩) h
  | j => trivial
  | nl => exact h
  | o r off len => exact ⟨⟨hx, h.1.2⟩, fun row hr => h.2 row (hR r row hr)⟩
  | p b sub => exact hp hx h
  | e r idx sub => exact ⟨⟨hx, h.1.2⟩, fun row hr => h.2 row (hR r row hr)⟩
  | fp fn ps =>
    obtain ⟨us, h1, h2, h3⟩ := h
    exact ⟨us, h1, h2, fun k b hk => let ⟨u, h4, h5⟩ := h3 k b hk; ⟨u, h4, hp (hx b (List.mem_of_getElem? hk)) h5⟩⟩

theorem cells_bd {nb nr : Nat} {x y : V} (hx : x.bd nb nr) (hy : y ∈ x.cells) : y.bd nb nr := by
  cases x with
  | d x =>
    cases x <;> simp [V.cells] at hy
    case s xs => obtain ⟨z, _, rfl⟩ := hy; trivial
    all_goals subst hy; trivial
  | _ => simp [V.cells] at hy; subst hy; exact hx

theorem Le.rel {E : Env} {σ σ' : St} {μ : Map} {a : Act} {w : World} (hle : Le σ σ') (h : Rel E σ μ a w) : Rel E σ' μ a w := by
  obtain ⟨h1, h2, h3, h4, h5⟩ := hle
  obtain ⟨g1, g2⟩ := h4.inv
  obtain ⟨l1, l2⟩ := h1.inv
  obtain ⟨b1, b2⟩ := h2.inv
  obtain ⟨r1, r2⟩ := h3.inv
  have ho : ∀ b, Own μ σ' b → Own μ σ b := by
    rintro b (⟨i, hi, rfl⟩ | ⟨r, row, sh, hr, hm⟩)
    · exact .inl ⟨i, by omega, rfl⟩
    · exact .inr ⟨r, row, sh, r2 r row hr, hm⟩
  have hv : ∀ {x : V} {u : Value}, x.bd σ'.bx.length σ'.rw.length → RelV E w μ σ x u → RelV E w μ σ' x u := fun hx hr => hr.le ho r2 hx
  refine ⟨h.stp, fun b hb => h.own b (ho b hb), ⟨fun i k hi hk => h.mem.bb i k (by omega) (by omega), fun i r row sh hi hr => h.mem.br i r row sh (by omega) (r2 r row hr), fun r r' row row' b sh sh' hr hr' => h.mem.rr r r' row row' b sh sh' (r2 r row hr) (r2 r' row' hr'), fun i x hx => ?_, fun r row hr => ?_⟩, ⟨by rw [h.tm.1]; exact l1, fun k x u hx hu => ?_⟩, h.marks, ⟨by rw [h.gh.1]; exact g1, fun k x u hx hu => ?_⟩, h.pin, fun v x hx => by rw [h5] at hx; cases hx⟩
  · obtain ⟨C, et, g1, g2, g3⟩ := h.mem.box i x (b2 i x hx).1
    exact ⟨C, et, g1, g2, fun k y u hy hu => hv (cells_bd (b2 i x hx).2 (List.mem_of_getElem? hy)) (g3 k y u hy hu)⟩
  · have := h.mem.row r row (r2 r row hr)
    cases hm : μ.r r with
    | none => rw [hm] at this; exact this
    | some p =>
      obtain ⟨b, sh⟩ := p
      rw [hm] at this
      obtain ⟨k0, k1, C, et, k2, k3, k4⟩ := this
      exact ⟨k0, k1, C, et, k2, k3, fun i k x y u hx hy hu => (k4 i k x y u hx hy hu).mono (fun b hb => ⟨⟨hb.1, hb.2.1, fun h' => hb.2.2 (ho b h')⟩, .inl rfl⟩)⟩
  · rcases l2 k x hx with rfl | ⟨hx', hbd⟩
    · trivial
    · exact hv hbd (h.tm.2 k x u hx' hu)
  · rcases g2 k x hx with rfl | ⟨hx', hbd⟩
    · trivial
    · exact hv hbd (h.gh.2 k x u hx' hu)

theorem Le.relS {E : Env} {σ σ' : St} {a : Act} {w : World} (hle : Le σ σ') (h : RelS E σ a w) : RelS E σ' a w := let ⟨μ, hr⟩ := h; ⟨μ, hle.rel hr⟩

theorem AW.le {c : Code} {Q : Exit → St → Prop} {σ σ' : St} (h : AW P c Q σ') (hle : Le σ σ') : AW P c Q σ :=
  fun E a w he hr => h E a w he (hle.relS hr)

theorem least {p : Nat → Prop} (h : ∃ n, p n) : ∃ n, p n ∧ ∀ m, p m → n ≤ m := by
  obtain ⟨n, hn⟩ := h
  induction n using Nat.strongRecOn with
  | _ n ih =>
    by_cases hb : ∃ m, m < n ∧ p m
    · obtain ⟨m, h1, h2⟩ := hb
      exact ih m h1 h2
    · exact ⟨n, hn, fun m hm => Nat.le_of_not_lt fun h => hb ⟨m, h, hm⟩⟩

end Go.Aw

namespace Go.Aw
open Go.RowKit
variable {P : Program}

/-- What a function gives: data, or a row of its own. -/
inductive Res where
  | d (x : D)
  | row (sz : Nat) (xs : List D)

def ResOK (B : Nat) (N : Nat → Prop) (w : World) : Res → Value → Prop
  | .d x, v => RelD w N x v
  | .row sz xs, v => 0 < sz ∧ (∀ x ∈ xs, x.cells.length = sz) ∧ ((v = .slice none 0 0 ∧ xs = []) ∨ ∃ b sh cap, v = .slice (some ⟨b, sh, none⟩) xs.length cap ∧ xs.length ≤ cap ∧ B ≤ b ∧
      ∃ C et, w.heap[b]? = some (.cells C et (0, 0)) ∧ sh + cap * sz ≤ C.size ∧ ∀ (i k : Nat) (x y : D) (u : Value), xs[i]? = some x → x.cells[k]? = some y → C[sh + i * sz + k]? = some u → RelD w (fun b' => N b' ∧ b' ≠ b) y u)

def ArgsOK (w : World) (N : Nat → Prop) (ds : List D) (vs : List Value) : Prop := vs.length = ds.length ∧ ∀ (k : Nat) (d : D) (v : Value), ds[k]? = some d → vs[k]? = some v → RelD w N d v

/-- A function that reads its arguments, makes memory of its own and gives one of R. -/
def FnA (P : Program) (f : FuncId) (ds : List D) (R : Res → Prop) : Prop :=
  (∀ args w, (callFunc f args).run P w = .ok (.enter f args) w) ∧
  ∀ (w : World) (N : Nat → Prop) (vs : List Value), Gl P w → (∀ b, N b → b < w.heap.size) → ArgsOK w N ds vs →
    CallsIn Fence.wide 0 P f vs.toArray w fun e w' => ∃ r v, R r ∧ e = .returned v ∧ Below w.heap.size w w' ∧ ResOK w.heap.size (fun b => (N b ∨ w.heap.size ≤ b) ∧ b < w'.heap.size) w' r v

theorem FnA.mono {f : FuncId} {ds : List D} {R R' : Res → Prop} (h : FnA P f ds R) (hr : ∀ r, R r → R' r) : FnA P f ds R' :=
  ⟨h.1, fun w N vs hg h1 h2 => (h.2 w N vs hg h1 h2).mono fun _ _ ⟨r, v, a, b⟩ => ⟨r, v, hr r a, b⟩⟩

/-- As data, whatever a slot holds. -/
def tdK (σ : St) (x : V) (k : D → Prop) : Prop :=
  match x with
  | .d x => k x
  | .nl => k (.l [])
  | .o r off len => rwK σ r fun row => k (.l ((row.xs.drop off).take len))
  | .p b sub => match σ.bx.getD b .j with
    | .d x => k (.q (x.cells.drop sub))
    | _ => False
  | .fp fn ps => bqK σ ps fun qs => k (.f fn qs)
  | _ => False
where
  bqK (σ : St) : List Nat → (List D → Prop) → Prop
    | [], k => k []
    | b :: bs, k => match σ.bx.getD b .j with
      | .d x => bqK σ bs fun qs => k (.q x.cells :: qs)
      | _ => False

/-- All that may be read: what is read only, and what is owned. -/
def Al (E : Env) (w : World) (b : Nat) : Prop := (E.N b ∨ E.w0.heap.size ≤ b ∨ E.Ow b) ∧ b < w.heap.size

theorem fz_al {E : Env} {w : World} {μ : Map} {σ : St} {b : Nat} (h : Fz E w μ σ b) : Al E w b := ⟨h.1, h.2.1⟩
theorem RelD.al {E : Env} {w : World} {μ : Map} {σ : St} {d : D} {v : Value} (h : RelD w (Fz E w μ σ) d v) : RelD w (Al E w) d v := h.mono fun _ hb => ⟨fz_al hb, .inl rfl⟩
theorem Rel.own_al {E : Env} {σ : St} {μ : Map} {a : Act} {w : World} (h : Rel E σ μ a w) {b : Nat} (hb : Own μ σ b) : Al E w b := ⟨(h.own b hb).elim (fun h => .inr (.inl h)) (fun h => .inr (.inr h)), h.mem.own_lt hb⟩

theorem box_q {E : Env} {σ : St} {μ : Map} {a : Act} {w : World} (hr : Rel E σ μ a w) {b sub : Nat} {x : D} {v : Value} (hx : σ.bx.getD b .j = .d x) (hv : RelP μ σ b sub v) : RelD w (Al E w) (.q (x.cells.drop sub)) v := by
  obtain ⟨hb, rfl⟩ := hv
  have hc : (V.d x).cells = x.cells.map .d := by cases x <;> simp [V.cells, D.cells]
  have key : ∀ (k : Nat) (y : D), (x.cells.drop sub)[k]? = some y → ∃ u, w.cell? ⟨μ.b b, sub + k, none⟩ = some u ∧ RelD w (Al E w) y u := fun k y hy => by
    rw [List.getElem?_drop] at hy
    obtain ⟨u, h1, h2⟩ := box_cell hr (sub := sub + k) (z := .d y) hb (by rw [hx, hc, List.getElem?_map, hy]; rfl)
    exact ⟨u, h1, RelD.al h2⟩
  have hf : ∀ k, ∃ u, ∀ y, (x.cells.drop sub)[k]? = some y → w.cell? ⟨μ.b b, sub + k, none⟩ = some u ∧ RelD w (Al E w) y u := fun k => by
    cases hy : (x.cells.drop sub)[k]? with
    | none => exact ⟨undef, fun y hy' => by cases hy'⟩
    | some y => obtain ⟨u, h⟩ := key k y hy; exact ⟨u, fun y' hy' => by cases hy'; exact h⟩
  exact .q _ _ (fun k => Classical.choose (hf k)) (hr.own_al (.inl ⟨b, hb, rfl⟩)) (fun k y hy => by rw [addr_add]; exact (Classical.choose_spec (hf k) y hy).1) (fun k y hy => (Classical.choose_spec (hf k) y hy).2)

theorem row_l {E : Env} {σ : St} {μ : Map} {a : Act} {w : World} (hr : Rel E σ μ a w) {r off len : Nat} {row : Row} {v : Value} (hrow : σ.rw[r]? = some (some row)) (hv : RelV E w μ σ (.o r off len) v) : RelD w (Al E w) (.l ((row.xs.drop off).take len)) v := by
  obtain ⟨_, hv⟩ := hv
  obtain ⟨hle, hv⟩ := hv row hrow
  have hlen : ((row.xs.drop off).take len).length = len := by simp; omega
  rcases hv with ⟨_, rfl, rfl⟩ | ⟨b, sh, A, cap, hm, rfl, hcap, hA, hroom⟩
  · have : (row.xs.drop off).take 0 = [] := rfl
    rw [this]
    exact .nl none 0
  · by_cases h0 : len = 0
    · subst h0
      have : (row.xs.drop off).take 0 = [] := rfl
      rw [this]
      exact .nl A cap
    · obtain rfl := hA (.inl (by omega))
      have hR := hr.mem.row r row hrow
      rw [hm] at hR
      have key : ∀ (i k : Nat) (x y : D), ((row.xs.drop off).take len)[i]? = some x → x.cells[k]? = some y → ∃ u, w.cell? ((⟨b, sh + off * row.sz, none⟩ : Addr).add (i * row.sz + k)) = some u ∧ RelD w (Al E w) y u := fun i k x y hx hy => by
        have hx2 : row.xs[off + i]? = some x := by
          rw [List.getElem?_take] at hx
          split at hx
          · rwa [List.getElem?_drop] at hx
          · cases hx
        obtain ⟨u, g1, g2⟩ := row_cell hr hrow hm hx2 hy
        refine ⟨u, ?_, g2.al⟩
        rw [addr_add, ← g1]
        congr 2
        rw [Nat.add_mul]; omega
      have hf : ∀ i k, ∃ u, ∀ x y, ((row.xs.drop off).take len)[i]? = some x → x.cells[k]? = some y → w.cell? ((⟨b, sh + off * row.sz, none⟩ : Addr).add (i * row.sz + k)) = some u ∧ RelD w (Al E w) y u := fun i k => by
        cases hx : ((row.xs.drop off).take len)[i]? with
        | none => exact ⟨undef, fun x y hx' => by cases hx'⟩
        | some x =>
          cases hy : x.cells[k]? with
          | none => exact ⟨undef, fun x' y hx' hy' => by cases hx'; rw [hy] at hy'; cases hy'⟩
          | some y =>
            obtain ⟨u, h1⟩ := key i k x y hx hy
            exact ⟨u, fun x' y' hx' hy' => by cases hx'; rw [hy] at hy'; cases hy'; exact h1⟩
      have hl2 : len = ((row.xs.drop off).take len).length := hlen.symm
      have : RelD w (Al E w) (.l ((row.xs.drop off).take len)) (.slice (some ⟨b, sh + off * row.sz, none⟩) ((row.xs.drop off).take len).length cap) := by
        refine .l _ _ cap row.sz (fun i k => Classical.choose (hf i k)) (by omega) (hr.own_al (.inr ⟨r, row, sh, hrow, hm⟩)) (fun i x hx => hR.2.1 x ?_) (fun i k x y hx hy => (Classical.choose_spec (hf i k) x y hx hy).1) (fun i k x y hx hy => (Classical.choose_spec (hf i k) x y hx hy).2)
        exact List.mem_of_mem_drop (List.mem_of_mem_take (List.mem_of_getElem? hx))
      rwa [hlen] at this

theorem tdK_inv {E : Env} {σ : St} {μ : Map} {a : Act} {w : World} (hr : Rel E σ μ a w) {x : V} {v : Value} {k : D → Prop} (h : tdK σ x k) (hv : RelV E w μ σ x v) : ∃ d, RelD w (Al E w) d v ∧ k d := by
  unfold tdK at h
  split at h
  · exact ⟨_, RelD.al hv, h⟩
  · exact ⟨.l [], by rw [show v = .slice none 0 0 from hv]; exact .nl none 0, h⟩
  · obtain ⟨row, hrow, h⟩ := rwK_inv h
    exact ⟨_, row_l hr hrow hv, h⟩
  · rename_i b sub
    split at h
    · rename_i x hx
      exact ⟨_, box_q hr hx hv, h⟩
    · exact h.elim
  · rename_i fn ps
    obtain ⟨us, rfl, hl, hp⟩ := hv
    have : ∀ (ps : List Nat) (k : List D → Prop), tdK.bqK σ ps k → ∃ qs, k qs ∧ qs.length = ps.length ∧ ∀ (i b : Nat), ps[i]? = some b → ∃ x, σ.bx.getD b .j = .d x ∧ qs[i]? = some (.q x.cells) := by
      intro ps
      induction ps with
      | nil => intro k h; exact ⟨[], h, rfl, fun i b hb => by simp at hb⟩
      | cons b ps ih =>
        intro k h
        unfold tdK.bqK at h
        split at h
        · rename_i x hx
          obtain ⟨qs, h1, h2, h3⟩ := ih _ h
          refine ⟨_, h1, by simp [h2], fun i b' hb' => ?_⟩
          cases i with
          | zero => simp at hb'; subst hb'; exact ⟨x, hx, rfl⟩
          | succ i => simpa using h3 i b' (by simpa using hb')
        · exact h.elim
    obtain ⟨qs, h1, h2, h3⟩ := this _ _ h
    refine ⟨_, .f fn qs us (by omega) (fun i q u hq hu => ?_), h1⟩
    have hi : i < ps.length := by rw [← h2]; exact (List.getElem?_eq_some_iff.1 hq).1
    obtain ⟨x, hx, hqx⟩ := h3 i _ (List.getElem?_eq_getElem hi)
    obtain ⟨u', hu', hrp⟩ := hp i _ (List.getElem?_eq_getElem hi)
    rw [hu] at hu'
    cases hu'
    rw [hq] at hqx
    cases hqx
    exact box_q hr (sub := 0) hx hrp
  · exact h.elim

/-! ### Return -/
def rvK (P : Program) (σ : St) (rv : ResultVar) (k : D → Prop) : Prop :=
  match rv with
  | .tmp t => tdK σ (σ.tm.getD t .j) k
  | .cell a ty => match σ.tm.getD a .j with
    | .p b 0 => tyK P ty fun g _ => match g with
      | false => nthK (σ.bx.getD b .j).cells 0 fun y => tdK σ y k
      | true => match σ.bx.getD b .j with
        | .d (.s ds) => tyK P ty fun _ n => ds.length = n ∧ k (.s ds)
        | _ => False
    | _ => False
def rvsK (P : Program) (σ : St) : List ResultVar → (List D → Prop) → Prop
  | [], k => k []
  | rv :: rvs, k => rvK P σ rv fun d => rvsK P σ rvs fun ds => k (d :: ds)
def retD (P : Program) (σ : St) (rvs : List ResultVar) (R : D → Prop) : Prop :=
  match rvs with
  | [rv] => rvK P σ rv R
  | rvs => rvsK P σ rvs fun ds => R (.t ds)

theorem rvK_inv {E : Env} {σ : St} {μ : Map} {a : Act} {w : World} (hr : Rel E σ μ a w) {rv : ResultVar} {k : D → Prop} (h : rvK P σ rv k) :
    ∃ d v, k d ∧ RelD w (Al E w) d v ∧ (match rv with | .tmp t => (pure (a.tmps.getD t undef) : Sem Value) | .cell b t => do loadVar t (← asAddr (a.tmps.getD b undef))).run P w = .ok v w := by
  unfold rvK at h
  split at h
  · rename_i t
    obtain ⟨d, h1, h2⟩ := tdK_inv hr h (hr.eval (.tmp t))
    exact ⟨d, _, h2, h1, rfl⟩
  · rename_i b ty
    have hb := hr.eval (.tmp b)
    simp only [St.eval] at hb
    split at h
    · rename_i bi heq
      rw [heq] at hb
      obtain ⟨hlt, hb⟩ := hb
      have hb' : a.tmps.getD b undef = .pointer (some ⟨μ.b bi, 0, none⟩) := hb
      obtain ⟨g, n, ht, h⟩ := h
      cases g with
      | false =>
        obtain ⟨y, hy, h⟩ := nthK_inv h
        obtain ⟨u, h1, h2⟩ := box_cell hr hlt hy
        obtain ⟨d, h3, h4⟩ := tdK_inv hr h h2
        refine ⟨d, u, h4, h3, ?_⟩
        simp only [hb']
        simp [asAddr, loadVar, run_isAgg_ty ht, h1]
      | true =>
        simp only at h
        split at h
        · rename_i ds hds
          obtain ⟨g', n', ht', hn, hk⟩ := h
          rw [ht] at ht'
          cases ht'
          obtain ⟨u, h1, h2⟩ := load_agg_at (P := P) (w := w) (N := Fz E w μ σ) (b := μ.b bi) (o := 0) ht hn (fun k y hy => by
            have := box_cell hr (sub := k) (z := .d y) hlt (by rw [hds]; simp [V.cells, hy])
            rw [Nat.zero_add]
            exact this)
          refine ⟨_, u, hk, h2.al, ?_⟩
          simp only [hb']
          simpa [asAddr, Instr.loadAt, Instr.sureAddr] using h1
        · exact h.elim
    · exact h.elim
end Go.Aw
