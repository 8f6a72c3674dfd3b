/- Part Aw 2 of what the proof of TopHalves stands on: an abstract walk over the model, sound for every run. -/
import Derived.Test.YtblhpmhfhpmifabAw1
import Derived.RangeFuncSeq
import Derived.Laws.StructEq
set_option linter.unusedVariables false
set_option linter.unusedSimpArgs false
namespace Go.Aw
open Go.RowKit
variable {P : Program}

def markOf (r : Nat) : Deferred := { target := .collected r, args := #[] }

/-- Only the blocks of ds have turned. -/
structure Shut (ds : List Nat) (w w' : World) : Prop where
  os : w'.os = w.os
  tape : w'.tape = w.tape
  output : w'.output = w.output
  size : w'.heap.size = w.heap.size
  block : ∀ k, k ∉ ds → w'.heap[k]? = w.heap[k]?

theorem leaves_marks {fn : Func} {tmps : Array Value} {R : Ending → World → Prop} : ∀ (ds : List Nat) (w : World), ds.Nodup → (∀ r ∈ ds, w.heap[r]? = some (.deferred (some []))) →
    (∀ w', Shut ds w w' → ∃ v, (results fn tmps).run P w' = .ok v w' ∧ R (.returned v) w') → LeavesInM Fence.wide 0 P fn tmps R (ds.map markOf) .returning w := by
  intro ds
  induction ds with
  | nil => intro w _ _ h; exact h w ⟨rfl, rfl, rfl, rfl, fun _ _ => rfl⟩
  | cons r ds ih =>
    intro w hn hm h
    have hr := hm r (by simp)
    have hlt : r < w.heap.size := (Array.getElem?_eq_some_iff.1 hr).1
    simp only [List.nodup_cons] at hn
    refine ⟨by simp, .inl ⟨r, w.putObj r (.deferred none), rfl, run_takeDeferred hr, ih _ hn.2 (fun r' hr' => ?_) (fun w' hs => h w' ?_)⟩⟩
    · rw [World.putObj_heap_other (fun e => by subst e; exact hn.1 hr')]
      exact hm r' (by simp [hr'])
    · refine ⟨hs.os, hs.tape, hs.output, by rw [hs.size]; simp, fun k hk => ?_⟩
      simp only [List.mem_cons, not_or] at hk
      rw [hs.block k hk.2, World.putObj_heap_other hk.1]

theorem Rel.shut {E : Env} {σ : St} {μ : Map} {a : Act} {w w' : World} {ds : List Nat} (h : Rel E σ μ a w) (hm : ∀ r ∈ ds, E.w0.heap.size ≤ r ∧ w.heap[r]? = some (.deferred (some []))) (hs : Shut ds w w') (hp : ∀ l o, ¬ E.pin l o) : Rel E σ μ { a with defers := [] } w' := by
  have hno : ∀ r ∈ ds, noCells w r := fun r hr C et fr e => by rw [(hm r hr).2] at e; cases e
  have hcell : ∀ (b : Nat) {C et fr}, w.heap[b]? = some (.cells C et fr) → w'.heap[b]? = some (.cells C et fr) := fun b C et fr e => (hs.block b (fun hb => hno b hb C et fr e)).trans e
  have t : Tr E (fun _ => False) w μ σ w' μ σ := by
    refine ⟨fun b hb => ⟨⟨hb.1, by rw [hs.size]; exact hb.2.1, hb.2.2⟩, ?_⟩, Nat.le_refl _, fun _ _ => rfl, Nat.le_refl _, fun r row' _ _ h' => ⟨row', h', rfl, Nat.le_refl _, rfl⟩, ?_⟩
    · by_cases hb' : b ∈ ds
      · exact .inr (hno b hb')
      · exact .inl (hs.block b hb')
    · rintro b n ⟨C, et, fr, h1, h2⟩
      exact ⟨C, et, fr, hcell b h1, h2⟩
  refine ⟨⟨hs.os.trans h.stp.os, hs.tape.trans h.stp.tape, hs.output.trans h.stp.output, by rw [hs.size]; exact h.stp.size, fun k hk hn => (hs.block k (fun hk' => by have := (hm k hk').1; omega)).trans (h.stp.block k hk hn)⟩, h.own, ⟨h.mem.bb, h.mem.br, h.mem.rr, fun i x hx => ?_, fun r row hr => ?_⟩,
    ⟨h.tm.1, fun k x u hx hu => (h.tm.2 k x u hx hu).tr t (no_men x)⟩, ⟨[], rfl, by simp, by simp⟩, ⟨h.gh.1, fun k x u hx hu => (h.gh.2 k x u hx hu).tr t (no_men x)⟩, fun l o ho => absurd ho (hp l o), fun v x hx => (h.fx v x hx).tr t (no_men x)⟩
  · obtain ⟨C, et, g1, g2, g3⟩ := h.mem.box i x hx
    exact ⟨C, et, hcell _ g1, g2, fun k y u hy hu => (g3 k y u hy hu).tr t (no_men y)⟩
  · have := h.mem.row r row hr
    cases hl : μ.r r with
    | none => rw [hl] at this; exact this
    | some p =>
      obtain ⟨b, sh⟩ := p
      rw [hl] at this
      obtain ⟨k0, k1, C, et, k2, k3, k4⟩ := this
      exact ⟨k0, k1, C, et, hcell _ k2, k3, fun i k x y u hx hy hu => (k4 i k x y u hx hy hu).mono t.fz⟩

theorem results_sound {E : Env} {σ : St} {μ : Map} {a : Act} {w : World} (hr : Rel E σ μ a w) {fn : Func} {R : D → Prop} (h : retD P σ fn.results.toList R) : ∃ d v, R d ∧ RelD w (Al E w) d v ∧ (results fn a.tmps).run P w = .ok v w := by
  let f : ResultVar → Sem Value := fun | .tmp t => pure (a.tmps.getD t undef) | .cell b t => do loadVar t (← asAddr (a.tmps.getD b undef))
  have hall : ∀ (l : List ResultVar) (k : List D → Prop), rvsK P σ l k → ∃ ds vs, k ds ∧ vs.length = ds.length ∧ ds.length = l.length ∧ (∀ (i : Nat) (d : D) (v : Value), ds[i]? = some d → vs[i]? = some v → RelD w (Al E w) d v) ∧ (l.mapM f).run P w = .ok vs w := by
    intro l
    induction l with
    | nil => intro k h; exact ⟨[], [], h, rfl, rfl, fun i d v hd => by simp at hd, rfl⟩
    | cons rv l ih =>
      intro k h
      obtain ⟨d, v, h1, h2, h3⟩ := rvK_inv hr h
      obtain ⟨ds, vs, g1, g2, g3, g4, g5⟩ := ih _ h1
      refine ⟨d :: ds, v :: vs, g1, by simp [g2], by simp [g3], fun i d' v' hd hv => ?_, ?_⟩
      · cases i with
        | zero => simp at hd hv; subst hd; subst hv; exact h2
        | succ i => exact g4 i d' v' (by simpa using hd) (by simpa using hv)
      · have h3' : (f rv).run P w = .ok v w := by cases rv <;> exact h3
        simp only [List.mapM_cons, Sem.run_bind, h3', Result.andThen_ok, g5, Sem.run_pure]
  have hres : results fn a.tmps = (do let vs ← fn.results.mapM f; pure (if h : vs.size = 1 then vs[0] else .tuple vs)) := rfl
  rw [hres, Array.mapM_eq_mapM_toList]
  generalize fn.results.toList = l at h
  unfold retD at h
  split at h
  · rename_i rv
    obtain ⟨d, v, h1, h2, h3⟩ := rvK_inv hr h
    have h3' : (f rv).run P w = .ok v w := by cases rv <;> exact h3
    exact ⟨d, v, h1, h2, by simp [h3']⟩
  · rename_i hne
    obtain ⟨ds, vs, g1, g2, g3, g4, g5⟩ := hall _ _ h
    refine ⟨.t ds, .tuple vs.toArray, g1, .t ds vs.toArray (by simp [g2]) (fun k y u hy hu => g4 k y u hy (by simpa using hu)), ?_⟩
    have : vs.length ≠ 1 := fun e => by
      obtain ⟨rv, hl⟩ := List.length_eq_one_iff.1 (show l.length = 1 by omega)
      exact hne rv hl
    simp [g5, this]

theorem start_rel {fn : Func} {w : World} {N : Nat → Prop} {ds : List D} {vs : List Value} (hN : ∀ b, N b → b < w.heap.size) (ha : ArgsOK w N ds vs) :
    RelS { w0 := w, N := N, Ow := fun _ => False } { tm := ds.map .d ++ List.replicate (fn.ntmps - ds.length) .j, bx := [], rw := [] } { tmps := vs.toArray ++ Array.replicate (fn.ntmps - vs.toArray.size) undef, defers := [] } w := by
  have hno : ∀ b, ¬ Own ⟨fun _ => 0, fun _ => none⟩ { tm := ds.map .d ++ List.replicate (fn.ntmps - ds.length) .j, bx := [], rw := [] } b := by
    rintro b (⟨i, hi, _⟩ | ⟨r, row, sh, hr, _⟩)
    · simp at hi
    · simp at hr
  refine ⟨⟨fun _ => 0, fun _ => none⟩, Stp.refl _ w, fun b hb => absurd hb (hno b), ⟨fun i k hi => by simp at hi, fun i r row sh hi => by simp at hi, fun r r' row row' b sh sh' hr => by simp at hr, fun i x hx => by simp at hx, fun r row hr => by simp at hr⟩, ⟨by simp [ha.1], fun k x u hx hu => ?_⟩, ⟨[], rfl, by simp, by simp⟩, ⟨rfl, fun k x u hx => by simp at hx⟩, fun l o ho => ho.elim, fun v x hx => by cases hx⟩
  by_cases hk : k < ds.length
  · rw [List.getElem?_append_left (by simpa using hk), List.getElem?_map] at hx
    rw [Array.getElem?_append_left (by simp [ha.1]; exact hk)] at hu
    cases hd : ds[k]? with
    | none => simp [hd] at hx
    | some d =>
      simp [hd] at hx
      subst hx
      exact (ha.2 k d u hd (by simpa using hu)).mono (fun b hb => ⟨⟨.inl hb, hN b hb, hno b⟩, .inl rfl⟩)
  · rw [List.getElem?_append_right (by simpa using hk)] at hx
    have : x = .j := List.eq_of_mem_replicate (List.mem_of_getElem? hx)
    subst this
    trivial

/-- What the body of a function must come to. -/
def Qret (P : Program) (rvs : List ResultVar) (R : D → Prop) : Exit → St → Prop
  | .normal, σ => retD P σ rvs R
  | .ret, σ => retD P σ rvs R
  | _, _ => False

/-- **A function's contract, by the walk over its body.** -/
theorem FnA_d {f : FuncId} {fn : Func} {c : Code} {ds : List D} {R : D → Prop} (hf : P.funcs[f]? = some fn) (hb : fn.body = some c) (hname : (fn.name == "runtime.NumGoroutine") = false)
    (h : aw P c (Qret P fn.results.toList R) { tm := ds.map .d ++ List.replicate (fn.ntmps - ds.length) .j, bx := [], rw := [] }) : FnA P f ds (fun r => ∃ d, r = .d d ∧ R d) := by
  refine ⟨fun args w => Go.Proofs.enters_of hf hname hb args w, fun w N vs hg hN ha => ?_⟩
  refine callsIn_of_wp_marks hf hb trivial ?_ rfl
  refine wpIn_mono (aw_sound c h { w0 := w, N := N, Ow := fun _ => False } _ w ⟨hg, fun _ _ h => h⟩ (start_rel hN ha)) ?_
  rintro e a w' ⟨σ, hq, μ, hr⟩
  have fin : retD P σ fn.results.toList R → LeavesInM Fence.wide 0 P fn a.tmps (fun e w' => ∃ r v, (∃ d, r = Res.d d ∧ R d) ∧ e = .returned v ∧ Below w.heap.size w w' ∧ ResOK w.heap.size (fun b => (N b ∨ w.heap.size ≤ b) ∧ b < w'.heap.size) w' r v) a.defers .returning w' := by
    intro hq
    obtain ⟨ms, m1, m2, m3⟩ := hr.marks
    rw [m1]
    refine leaves_marks ms w' m2 (fun r hr' => (m3 r hr').2) (fun w'' hs => ?_)
    have hr2 := hr.shut m3 hs (fun _ _ h => h)
    obtain ⟨d, v, g1, g2, g3⟩ := results_sound (fn := fn) hr2 hq
    refine ⟨v, g3, .d d, v, ⟨d, rfl, g1⟩, rfl, hr2.stp.to_below, g2.mono (fun b hb => ⟨⟨hb.1.imp id (fun h => h.elim id (fun h => h.elim)), hb.2⟩, .inl rfl⟩)⟩
  cases e with
  | normal => exact fin hq
  | ret => exact fin hq
  | _ => exact hq.elim
end Go.Aw

namespace Go.Aw
open Go.RowKit
variable {P : Program}

def D.flat : D → Bool
  | .c _ => true
  | .t xs => xs.all fun x => match x with | .c _ => true | _ => false
  | _ => false
theorem flat_rel {w w' : World} {N N' : Nat → Prop} {d : D} {v : Value} (hf : D.flat d = true) (h : RelD w N d v) : RelD w' N' d v := by
  cases h with
  | c v => exact .c v
  | t xs us hl hr =>
    refine .t xs us hl (fun k y u hy hu => ?_)
    have := List.all_eq_true.1 hf y (List.mem_of_getElem? hy)
    have h2 := hr k y u hy hu
    cases y <;> simp at this
    cases h2
    exact .c _
  | _ => cases hf

def Res.flat : Res → Bool
  | .d x => D.flat x
  | .row _ xs => xs.all fun x => match x with | .c _ => true | _ => false

/-- The state behind a call. -/
def resK (σ : St) (dst : Option Tmp) (r : Res) (K : St → Prop) : Prop :=
  match r with
  | .d x => K (σ.put dst (.d x))
  | .row sz xs => K ((σ.addRow ⟨sz, xs⟩).put dst (.o σ.rw.length 0 xs.length))

theorem res_after {E : Env} {σ : St} {μ : Map} {a : Act} {w w' : World} {N : Nat → Prop} {r : Res} {v : Value} {dst : Option Tmp} {K : St → Prop} {K' : Act → World → Prop} (hr : Rel E σ μ a w) (hb : Below w.heap.size w w')
    (hN : (∀ b, N b → Fz E w μ σ b) ∨ r.flat = true) (hres : ResOK w.heap.size (fun b => (N b ∨ w.heap.size ≤ b) ∧ b < w'.heap.size) w' r v) (hK : resK σ dst r K)
    (hk : ∀ σ' a' w', K σ' → RelS E σ' a' w' → K' a' w') : K' (a.put dst v) w' := by
  have hs := Stp.below hb rfl
  cases r with
  | d x =>
    refine hk _ _ _ hK ⟨μ, (hr.later hs).put dst ?_⟩
    rcases hN with hN | hf
    · refine RelD.mono (fun b hb' => ⟨?_, .inl rfl⟩) hres
      rcases hb'.1 with h1 | h1
      · have := hN b h1
        exact ⟨this.1, hb'.2, this.2.2⟩
      · exact ⟨.inr (.inl (Nat.le_trans hr.stp.size h1)), hb'.2, fun ho => by have := hr.mem.own_lt ho; omega⟩
    · exact flat_rel hf hres
  | row sz xs =>
    obtain ⟨h0, hsz, ⟨rfl, rfl⟩ | ⟨b, sh, cap, rfl, hcap, hB, C, et, hnew, hroom, hrel⟩⟩ := hres
    · obtain ⟨g1, g2, _⟩ := (hr.later hs).newNil sz
      exact hk _ _ _ hK ⟨_, g1.put dst g2⟩
    · have hm : xs.length * sz ≤ cap * sz := Nat.mul_le_mul_right _ hcap
      obtain ⟨g1, g2⟩ := hr.adopt (row := ⟨sz, xs⟩) hs hB hnew h0 hsz (by show sh + xs.length * sz ≤ C.size; omega) (fun i k x y u hx hy hu => by
        rcases hN with hN | hf
        · refine (hrel i k x y u hx hy hu).mono (fun b' hb' => ⟨⟨?_, hb'.1.2, hb'.2⟩, .inl rfl⟩)
          rcases hb'.1.1 with h1 | h1
          · exact .inl (hN b' h1)
          · exact .inr h1
        · have h1 := List.all_eq_true.1 hf x (List.mem_of_getElem? hx)
          have h2 := hrel i k x y u hx hy hu
          cases x <;> simp at h1
          simp only [D.cells] at hy
          cases k with
          | zero => simp at hy; subst hy; exact flat_rel rfl h2
          | succ k => simp at hy)
      exact hk _ _ _ hK ⟨_, g1.put dst (g2 cap hcap hroom)⟩

theorem wpIn_call {ro : Option Nat} {o : Oper} {a : Act} {w : World} {K : Act → World → Prop} {Q : Exit → Act → World → Prop} {fo : Operand} {args : Array Operand} {ts : Array TypeId} {f : FuncId} {us : Array Value} {R' : Ending → World → Prop}
    (ho : o.op = .call { callee := .value fo, args := args, argTypes := ts }) (hfo : a.eval fo = .func (.func f) #[] us) (hen : ∀ args w, (callFunc f args).run P w = .ok (.enter f args) w) (h : CallsIn Fence.wide 0 P f (args.map a.eval ++ us) w R')
    (hK : ∀ e w', R' e w' → ∃ v, e = .returned v ∧ K (a.put o.dst v) w') : o.wpIn (FW ro) 0 P a w K Q := by
  refine ⟨fun _ _ => trivial, ?_⟩
  have hrun : (execOp a.eval o).run P w = .ok (.enter f (args.map a.eval ++ us)) w := by
    simp [execOp, ho, resolve, hfo, Deferred.ofValue, invoke, hen]
  rw [Oper.semAt_eq _ _ _ (by rw [ho]; simp), hrun, Oper.uponIn_enter]
  refine ⟨fun h => by simp [FW, Fence.wide] at h, ?_⟩
  have h' : CallsIn (FW ro) 0 P f (args.map a.eval ++ us) w R' := h
  refine CallsIn.mono h' (fun e w' hr => ?_)
  obtain ⟨v, rfl, hk⟩ := hK e w' hr
  exact hk

def allT (σ : St) : List Operand → (List D → Prop) → Prop
  | [], k => k []
  | x :: xs, k => tdK σ (σ.eval x) fun d => allT σ xs fun ds => k (d :: ds)

theorem allT_inv {E : Env} {σ : St} {μ : Map} {a : Act} {w : World} (hr : Rel E σ μ a w) : ∀ (xs : List Operand) (k : List D → Prop), allT σ xs k → ∃ ds, k ds ∧ ArgsOK w (Al E w) ds (xs.map a.eval) := by
  intro xs
  induction xs with
  | nil => intro k h; exact ⟨[], h, rfl, fun i d v hd => by simp at hd⟩
  | cons x xs ih =>
    intro k h
    obtain ⟨d, hd, h⟩ := tdK_inv hr h (hr.eval x)
    obtain ⟨ds, h1, h2, h3⟩ := ih _ h
    refine ⟨d :: ds, h1, by simpa using h2, fun i d' v hd' hv => ?_⟩
    cases i with
    | zero => simp at hd' hv; subst hd'; subst hv; exact hd
    | succ i => exact h3 i d' v (by simpa using hd') (by simpa using hv)
theorem allD_args {E : Env} {σ : St} {μ : Map} {a : Act} {w : World} (hr : Rel E σ μ a w) {xs : List Operand} {k : List D → Prop} (h : allD σ xs k) : ∃ ds, k ds ∧ ArgsOK w (Fz E w μ σ) ds (xs.map a.eval) := by
  obtain ⟨ds, h1, h2, h3⟩ := allD_inv (a := a) hr.eval xs k h
  refine ⟨ds, h1, by simp [h2], fun i d v hd hv => ?_⟩
  obtain ⟨v', hv', hrel⟩ := h3 i d hd
  rw [hv] at hv'
  cases hv'
  exact hrel

theorem args_app {w : World} {N : Nat → Prop} {ds caps : List D} {vs : List Value} {us : Array Value} (h : ArgsOK w N ds vs) (hl : us.size = caps.length) (hu : ∀ (k : Nat) (y : D) (u : Value), caps[k]? = some y → us[k]? = some u → RelD w N y u) : ArgsOK w N (ds ++ caps) (vs ++ us.toList) := by
  refine ⟨by simp [h.1, hl], fun k d v hd hv => ?_⟩
  by_cases hk : k < ds.length
  · rw [List.getElem?_append_left hk] at hd
    rw [List.getElem?_append_left (by rw [h.1]; exact hk)] at hv
    exact h.2 k d v hd hv
  · rw [List.getElem?_append_right (by omega)] at hd
    rw [List.getElem?_append_right (by rw [h.1]; omega), h.1] at hv
    exact hu _ d v hd (by simpa using hv)

/-- A call that hands over data alone: whatever it gives. -/
theorem callA {o : Oper} {σ : St} {K : St → Prop} {fo : Operand} {args : Array Operand} {ts : Array TypeId} {f : FuncId} {caps ds : List D} {R : Res → Prop} (ho : o.op = .call { callee := .value fo, args := args, argTypes := ts }) (hfo : dK (σ.eval fo) (fun d => d = .f (.func f) caps))
    (hds : allD σ args.toList (fun ds' => ds' = ds)) (h : FnA P f (ds ++ caps) R) (hK : ∀ r, R r → resK σ o.dst r K) : Loud P o σ K := by
  rintro E a w K' Q he ⟨μ, hr⟩ hk
  obtain ⟨d, hd, rfl⟩ := dK_inv hfo (hr.eval fo)
  obtain ⟨ds', rfl, ha⟩ := allD_args hr hds
  generalize hv : a.eval fo = vf at hd
  cases hd with
  | f _ _ us hl hu =>
    have := h.2 w (Fz E w μ σ) _ (he.gl hr) (fun b hb => hb.2.1) (args_app ha hl hu)
    have e : ((args.toList.map a.eval) ++ us.toList).toArray = args.map a.eval ++ us := by apply Array.ext'; simp
    rw [e] at this
    exact wpIn_call ho hv h.1 this (fun e w' ⟨r, v, h1, h2, h3, h4⟩ => ⟨v, h2, res_after hr h3 (.inl fun _ h => h) h4 (hK r h1) hk⟩)

/-- A call that may hand over what is owned: it gives plain numbers. -/
theorem callB {o : Oper} {σ : St} {K : St → Prop} {fo : Operand} {args : Array Operand} {ts : Array TypeId} {f : FuncId} {caps ds : List D} {R : Res → Prop} (ho : o.op = .call { callee := .value fo, args := args, argTypes := ts }) (hfo : tdK σ (σ.eval fo) (fun d => d = .f (.func f) caps))
    (hds : allT σ args.toList (fun ds' => ds' = ds)) (h : FnA P f (ds ++ caps) R) (hK : ∀ r, R r → r.flat = true ∧ resK σ o.dst r K) : Loud P o σ K := by
  rintro E a w K' Q he ⟨μ, hr⟩ hk
  obtain ⟨d, hd, rfl⟩ := tdK_inv hr hfo (hr.eval fo)
  obtain ⟨ds', rfl, ha⟩ := allT_inv hr _ _ hds
  generalize hv : a.eval fo = vf at hd
  cases hd with
  | f _ _ us hl hu =>
    have := h.2 w (Al E w) _ (he.gl hr) (fun b hb => hb.2) (args_app ha hl hu)
    have e : ((args.toList.map a.eval) ++ us.toList).toArray = args.map a.eval ++ us := by apply Array.ext'; simp
    rw [e] at this
    exact wpIn_call ho hv h.1 this (fun e w' ⟨r, v, h1, h2, h3, h4⟩ => ⟨v, h2, res_after hr h3 (.inr (hK r h1).1) h4 (hK r h1).2 hk⟩)

theorem tdK_mask {σ : St} {T : List V} {x : V} {k : D → Prop} (h : tdK σ x k) : tdK { σ with tm := T } x k := by
  unfold tdK at h ⊢
  split at h
  · exact h
  · exact h
  · exact h
  · exact h
  · have : ∀ (ps : List Nat) (k : List D → Prop), tdK.bqK σ ps k → tdK.bqK { σ with tm := T } ps k := by
      intro ps
      induction ps with
      | nil => intro k h; exact h
      | cons b ps ih =>
        intro k h
        unfold tdK.bqK at h ⊢
        simp only at h ⊢
        split at h
        · exact ih _ h
        · exact h.elim
    exact this _ _ h
  · exact h.elim

theorem tdK_eval {σ : St} {o : Oper} {x : Operand} (hx : x ∈ o.op.operands) {k : D → Prop} (h : tdK σ (σ.eval x) k) : tdK (σ.mask o) ((σ.mask o).eval x) k := by
  rw [mask_eval hx]; exact tdK_mask h

theorem allT_mask {σ : St} {o : Oper} : ∀ (xs : List Operand) (k : List D → Prop), (∀ x ∈ xs, x ∈ o.op.operands) → allT σ xs k → allT (σ.mask o) xs k := by
  intro xs
  have mono : ∀ {σ : St} {x : V} {k k' : D → Prop}, (∀ d, k d → k' d) → tdK σ x k → tdK σ x k' := by
    intro σ x k k' hkk h
    unfold tdK at h ⊢
    split at h
    · exact hkk _ h
    · exact hkk _ h
    · obtain ⟨row, hrow, h⟩ := rwK_inv h
      exact rwK_mk hrow (hkk _ h)
    · split at h
      · exact hkk _ h
      · exact h.elim
    · have : ∀ (ps : List Nat) (k k' : List D → Prop), (∀ ds, k ds → k' ds) → tdK.bqK σ ps k → tdK.bqK σ ps k' := by
        intro ps
        induction ps with
        | nil => intro k k' hk h; exact hk _ h
        | cons b ps ih =>
          intro k k' hk h
          unfold tdK.bqK at h ⊢
          split at h
          · exact ih _ _ (fun ds h => hk _ h) h
          · exact h.elim
      exact this _ _ _ (fun ds h => hkk _ h) h
    · exact h.elim
  induction xs with
  | nil => intro k _ h; exact h
  | cons x xs ih =>
    intro k hx h
    unfold allT at h ⊢
    exact tdK_eval (hx x (by simp)) (mono (fun d h' => ih _ (fun y hy => hx y (by simp [hy])) h') h)

theorem awQC_B {o : Oper} {σ : St} {C : V → Prop} {fo : Operand} {args : Array Operand} {ts : Array TypeId} {f : FuncId} {caps ds : List D} {d : D} {R : Res → Prop} (ho : o.op = .call { callee := .value fo, args := args, argTypes := ts }) (hfo : tdK σ (σ.eval fo) (fun d => d = .f (.func f) caps))
    (hds : allT σ args.toList (fun ds' => ds' = ds)) (h : FnA P f (ds ++ caps) R) (hR : ∀ r, R r → r = .d d) (hf : D.flat d = true) (hC : C (.d d)) : awQC P o σ C := by
  have hmem : ∀ x, x = fo ∨ x ∈ args.toList → x ∈ o.op.operands := fun x hx => by
    rw [ho]
    simp only [Op.operands, Call.operands]
    rcases hx with rfl | hx
    · simp
    · simp; exact .inr (by simpa using hx)
  refine ⟨.d d, ?_, hC⟩
  intro E μ a w K' Q he hr hk
  have hfo' := tdK_eval (hmem fo (.inl rfl)) hfo
  have hds' := allT_mask _ _ (fun x hx => hmem x (.inr hx)) hds
  obtain ⟨d', hd, rfl⟩ := tdK_inv hr hfo' (hr.eval fo)
  obtain ⟨ds', rfl, ha⟩ := allT_inv hr _ _ hds'
  generalize hv : a.eval fo = vf at hd
  cases hd with
  | f _ _ us hl hu =>
    have := h.2 w (Al E w) _ (he.gl hr) (fun b hb => hb.2) (args_app ha hl hu)
    have e : ((args.toList.map a.eval) ++ us.toList).toArray = args.map a.eval ++ us := by apply Array.ext'; simp
    rw [e] at this
    refine wpIn_call ho hv h.1 this (fun e w' ⟨r, v, h1, h2, h3, h4⟩ => ⟨v, h2, hk v w' (Stp.below h3 rfl) ?_⟩)
    obtain rfl := hR r h1
    exact flat_rel hf h4

theorem awQC_A {o : Oper} {σ : St} {C : V → Prop} {fo : Operand} {args : Array Operand} {ts : Array TypeId} {f : FuncId} {caps ds : List D} {d : D} {R : Res → Prop} (ho : o.op = .call { callee := .value fo, args := args, argTypes := ts }) (hfo : dK (σ.eval fo) (fun d => d = .f (.func f) caps))
    (hds : allD σ args.toList (fun ds' => ds' = ds)) (h : FnA P f (ds ++ caps) R) (hR : ∀ r, R r → r = .d d) (hC : C (.d d)) : awQC P o σ C := by
  have hmem : ∀ x, x = fo ∨ x ∈ args.toList → x ∈ o.op.operands := fun x hx => by
    rw [ho]
    simp only [Op.operands, Call.operands]
    rcases hx with rfl | hx
    · simp
    · simp; exact .inr (by simpa using hx)
  refine ⟨.d d, ?_, hC⟩
  intro E μ a w K' Q he hr hk
  have hfo' : dK ((σ.mask o).eval fo) (fun d => d = .f (.func f) caps) := by rw [mask_eval (hmem fo (.inl rfl))]; exact hfo
  have hds' := allD_congr (T := (σ.mask o).tm) args.toList _ (fun x hx => mask_eval (σ := σ) (o := o) (hmem x (.inr hx))) hds
  obtain ⟨d', hd, rfl⟩ := dK_inv hfo' (hr.eval fo)
  obtain ⟨ds', rfl, ha⟩ := allD_args hr hds'
  generalize hv : a.eval fo = vf at hd
  cases hd with
  | f _ _ us hl hu =>
    have := h.2 w (Fz E w μ (σ.mask o)) _ (he.gl hr) (fun b hb => hb.2.1) (args_app ha hl hu)
    have e : ((args.toList.map a.eval) ++ us.toList).toArray = args.map a.eval ++ us := by apply Array.ext'; simp
    rw [e] at this
    refine wpIn_call ho hv h.1 this (fun e w' ⟨r, v, h1, h2, h3, h4⟩ => ⟨v, h2, hk v w' (Stp.below h3 rfl) ?_⟩)
    obtain rfl := hR r h1
    refine RelD.mono (fun b hb' => ⟨?_, .inl rfl⟩) h4
    rcases hb'.1 with h1 | h1
    · exact ⟨h1.1, hb'.2, h1.2.2⟩
    · exact ⟨.inr (.inl (Nat.le_trans hr.stp.size h1)), hb'.2, fun ho => by have := hr.mem.own_lt ho; omega⟩
end Go.Aw

namespace Go.Aw
universe u
variable {P : Program}

/-- What the rewriting does not look into. -/
inductive Hid {α : Sort u} (a : α) : Type
  | mk : Hid a
/-- First the argument, then the rest. -/
def evK {α : Type} {K : α → Prop} (x : α) (_ : Hid K) : Prop := K x
theorem evK_go {α : Type} {K : α → Prop} (x : α) : evK x (.mk : Hid K) = K x := rfl

/-- A branch on a Bool. -/
def cdK (b : Bool) {X Y : Prop} (_ : Hid X) (_ : Hid Y) : Prop := (b = true → X) ∧ (b = false → Y)
theorem cdK_true (X Y : Prop) : cdK true (.mk : Hid X) (.mk : Hid Y) = X := by simp [cdK]
theorem cdK_false (X Y : Prop) : cdK false (.mk : Hid X) (.mk : Hid Y) = Y := by simp [cdK]
theorem cdK_split {b : Bool} {X Y : Prop} (h1 : b = true → X) (h2 : b = false → Y) : cdK b (.mk : Hid X) (.mk : Hid Y) := ⟨h1, h2⟩
theorem cdK_not (b : Bool) (X Y : Prop) : cdK (!b) (.mk : Hid X) (.mk : Hid Y) = cdK b (.mk : Hid Y) (.mk : Hid X) := by
  cases b <;> simp [cdK]
theorem cdK_dec {p : Prop} [Decidable p] {X Y : Prop} (h1 : p → X) (h2 : ¬ p → Y) : cdK (decide p) (.mk : Hid X) (.mk : Hid Y) := ⟨fun h => h1 (of_decide_eq_true h), fun h => h2 (of_decide_eq_false h)⟩

theorem gdK_junk (w : Bool) (y n : Prop) : gdK junk w y n = n := by simp [gdK, junk, undef]
theorem gdK_t (b : Bool) (y n : Prop) : gdK (.d (.c (.bool b))) true y n = cdK b (.mk : Hid y) (.mk : Hid n) := by cases b <;> simp [gdK, cdK]
theorem gdK_f (b : Bool) (y n : Prop) : gdK (.d (.c (.bool b))) false y n = cdK b (.mk : Hid n) (.mk : Hid y) := by cases b <;> simp [gdK, cdK]

def dstV (tm : List V) : Option Tmp → V
  | some t => tm.getD t .j
  | none => .j
def gvL (tm : List V) : List Oper → Nat → V
  | [], _ => .j
  | o :: _, 0 => dstV tm o.dst
  | _ :: l, n + 1 => gvL tm l n
theorem gval_mk (l : List Oper) (σ : St) (g : Nat) : gval l.toArray σ g = gvL σ.tm l g := by
  unfold gval
  simp only [List.getElem?_toArray]
  induction l generalizing g with
  | nil => simp [gvL]
  | cons o l ih =>
    cases g with
    | zero => simp [gvL, dstV]; rfl
    | succ g => simpa [gvL] using ih g
theorem gvL_zero (tm : List V) (t : Tmp) (op : Op) (ty : TypeId) (pos : String) (af : Array Edge) (g : Option (Nat × Bool)) (l : List Oper) : gvL tm (⟨some t, op, ty, pos, af, g⟩ :: l) 0 = tm.getD t .j := rfl
theorem gvL_succ (tm : List V) (o : Oper) (l : List Oper) (n : Nat) : gvL tm (o :: l) (n + 1) = gvL tm l n := rfl

def optK (x : Option Row) (k : Row → Prop) : Prop :=
  match x with
  | some r => k r
  | none => False
theorem optK_some (r : Row) (k : Row → Prop) : optK (some r) k = k r := rfl
theorem rwK_mk_ (tm bx : List V) (rw : List (Option Row)) (gh : List V) (fx : List (Value × V)) (r : Nat) (k : Row → Prop) : rwK ⟨tm, bx, rw, gh, fx⟩ r k = optK (rw.getD r none) k := rfl

def AWH (P : Program) {c : Code} {Q : Exit → St → Prop} (_ : Hid c) (_ : Hid Q) (σ : St) : Prop := AW P c Q σ
def LoudH (P : Program) {o : Oper} (_ : Hid o) (σ : St) {K : St → Prop} (_ : Hid K) : Prop := Loud P o σ K
def awQH (P : Program) {o : Oper} (_ : Hid o) (σ : St) {C : V → Prop} (_ : Hid C) : Prop := awQC P o σ C
theorem AWH.of {c : Code} {Q : Exit → St → Prop} {σ : St} (h : AW P c Q σ) : AWH P (.mk : Hid c) (.mk : Hid Q) σ := h
theorem LoudH.of {o : Oper} {K : St → Prop} {σ : St} (h : Loud P o σ K) : LoudH P (.mk : Hid o) σ (.mk : Hid K) := h
theorem awQH.of {o : Oper} {K : V → Prop} {σ : St} (h : awQC P o σ K) : awQH P (.mk : Hid o) σ (.mk : Hid K) := h
def atH {k : D → Prop} (xs : List D) (i : Nat) (_ : Hid k) : Prop := atK xs i k
theorem atK_H (xs : List D) (i : Nat) (k : D → Prop) : atK xs i k = atH xs i (.mk : Hid k) := rfl
theorem atH_map {α : Type} [Inhabited α] (f : α → D) (l : List α) (i : Nat) (k : D → Prop) : atH (l.map f) i (.mk : Hid k) = (i < l.length ∧ evK (l.getD i default) (.mk : Hid fun y => k (f y))) := by
  apply propext
  simp only [atH, atK, evK, List.getElem?_map]
  constructor
  · rintro ⟨x, h, hk⟩
    rw [Option.map_eq_some_iff] at h
    obtain ⟨y, hy, rfl⟩ := h
    exact ⟨(List.getElem?_eq_some_iff.1 hy).1, by rw [List.getD_eq_getElem?_getD, hy]; exact hk⟩
  · rintro ⟨h, hk⟩
    refine ⟨_, by rw [List.getElem?_eq_getElem h]; rfl, ?_⟩
    rw [List.getD_eq_getElem?_getD, List.getElem?_eq_getElem h, Option.getD_some] at hk
    exact hk
theorem atH_appmap {α : Type} (f : α → D) (l : List α) (y : D) (ys : List D) (k : D → Prop) : atH (l.map f ++ y :: ys) l.length (.mk : Hid k) = k y := by
  apply propext
  have e : (l.map f ++ y :: ys)[l.length]? = some y := by rw [List.getElem?_append_right (by simp)]; simp
  constructor
  · rintro ⟨x, h, hk⟩
    rw [e] at h
    cases h
    exact hk
  · exact fun hk => ⟨y, e, hk⟩
def nthH {α : Type} {k : α → Prop} (xs : List α) (i : Nat) (_ : Hid k) : Prop := nthK xs i k
theorem nthK_H {α : Type} (xs : List α) (i : Nat) (k : α → Prop) : nthK xs i k = nthH xs i (.mk : Hid k) := rfl
theorem nthH_zero {α : Type} (x : α) (xs : List α) (k : α → Prop) : nthH (x :: xs) 0 (.mk : Hid k) = k x := rfl
theorem nthH_succ {α : Type} (x : α) (xs : List α) (i : Nat) (k : α → Prop) : nthH (x :: xs) (i + 1) (.mk : Hid k) = nthH xs i (.mk : Hid k) := rfl

theorem aw_cond (c : Operand) (x y : Code) (Q : Exit → St → Prop) (σ : St) : aw P (.cond c x y) Q σ = evK (σ.eval c) (.mk : Hid fun v => bK v fun t => cdK t (.mk : Hid (aw P x Q σ)) (.mk : Hid (aw P y Q σ))) := rfl
theorem aw_seq (x y : Code) (Q : Exit → St → Prop) (σ : St) : aw P (.seq x y) Q σ = aw P x (Qseq (aw P y Q) Q) σ := rfl
theorem aw_block (id : Nat) (c : Code) (Q : Exit → St → Prop) (σ : St) : aw P (.block id c) Q σ = aw P c (Qblk id Q) σ := rfl
theorem aw_exit (id : Nat) (Q : Exit → St → Prop) (σ : St) : aw P (.exit id) Q σ = Q (.exit id) σ := rfl
theorem aw_ret (Q : Exit → St → Prop) (σ : St) : aw P .ret Q σ = Q .ret σ := rfl
theorem aw_skip (Q : Exit → St → Prop) (σ : St) : aw P .skip Q σ = Q .normal σ := rfl
theorem aw_loop (c : Code) (Q : Exit → St → Prop) (σ : St) : aw P (.loop c) Q σ = AWH P (.mk : Hid (Code.loop c)) (.mk : Hid Q) σ := rfl
theorem aw_rng (f : Operand) (ps : Array Tmp) (asg b : Code) (Q : Exit → St → Prop) (σ : St) : aw P (.rangeFunc f ps asg b) Q σ = AWH P (.mk : Hid (Code.rangeFunc f ps asg b)) (.mk : Hid Q) σ := rfl
theorem aw_reg (id : Nat) (l : List Oper) (Q : Exit → St → Prop) (σ : St) : aw P (.region id l.toArray false) Q σ = awOps P l.toArray l σ (Q .normal) := rfl
theorem aw_draw (id : Nat) (ops : Array Oper) (Q : Exit → St → Prop) (σ : St) : aw P (.region id ops true) Q σ = AWH P (.mk : Hid (Code.region id ops true)) (.mk : Hid Q) σ := rfl
theorem Qseq_n (K : St → Prop) (Q : Exit → St → Prop) (σ : St) : Qseq K Q .normal σ = K σ := rfl
theorem Qseq_x (K : St → Prop) (Q : Exit → St → Prop) (id : Nat) (σ : St) : Qseq K Q (.exit id) σ = Q (.exit id) σ := rfl
theorem Qseq_r (K : St → Prop) (Q : Exit → St → Prop) (σ : St) : Qseq K Q .ret σ = Q .ret σ := rfl
theorem Qblk_n (id : Nat) (Q : Exit → St → Prop) (σ : St) : Qblk id Q .normal σ = Q .normal σ := rfl
theorem Qblk_r (id : Nat) (Q : Exit → St → Prop) (σ : St) : Qblk id Q .ret σ = Q .ret σ := rfl
theorem Qblk_x (id id' : Nat) (Q : Exit → St → Prop) (σ : St) : Qblk id Q (.exit id') σ = if id' = id then Q .normal σ else Q (.exit id') σ := rfl
theorem Qret_r (rvs : List ResultVar) (R : D → Prop) (σ : St) : Qret P rvs R .ret σ = retD P σ rvs R := rfl
section
variable (ops : Array Oper) (K : St → Prop) (σ : St)
theorem ops_nil : awOps P ops [] σ K = K σ := rfl
theorem ops_cons (dst : Option Tmp) (op : Op) (t : TypeId) (pos : String) (af : Array Edge) (os : List Oper) :
    awOps P ops (⟨dst, op, t, pos, af, none⟩ :: os) σ K = awOp P ops ⟨dst, op, t, pos, af, none⟩ σ (fun σ' => awOps P ops os σ' K) := rfl
theorem ops_guard (dst : Option Tmp) (op : Op) (t : TypeId) (pos : String) (af : Array Edge) (g : Nat) (w : Bool) (os : List Oper) :
    awOps P ops (⟨dst, op, t, pos, af, some (g, w)⟩ :: os) σ K = evK (gval ops σ g) (.mk : Hid fun v => gdK v w (awOp P ops ⟨dst, op, t, pos, af, some (g, w)⟩ σ fun σ' => awOps P ops os σ' K) (evK (σ.put dst junk) (.mk : Hid fun σ' => awOps P ops os σ' K))) := rfl
end

section
variable (tm bx : List V) (rw : List (Option Row)) (gh : List V) (fx : List (Value × V))
theorem eval_tmp (t : Tmp) : St.eval ⟨tm, bx, rw, gh, fx⟩ (.tmp t) = tm.getD t .j := rfl
theorem eval_int (σ : St) (k : IntKind) (n : Int) : St.eval σ (.const (.int k n)) = .d (I k n) := rfl
theorem eval_bool (σ : St) (b : Bool) : St.eval σ (.const (.bool b)) = .d (Bo b) := rfl
theorem eval_nil (σ : St) : St.eval σ (.const (.slice none 0 0)) = .nl := rfl
theorem eval_func (σ : St) (f : FuncId) : St.eval σ (.func f) = .d (.f (.func f) []) := rfl
theorem put_some (t : Tmp) (x : V) : St.put ⟨tm, bx, rw, gh, fx⟩ (some t) x = ⟨tm.set t x, bx, rw, gh, fx⟩ := rfl
theorem put_none (σ : St) (x : V) : St.put σ none x = σ := rfl
end

section
variable (C : V → Prop)
theorem bK_b (t : Bool) (k : Bool → Prop) : bK (.d (Bo t)) k = k t := rfl
theorem iK_i (q : IntKind) (n : Int) (k : IntKind → Int → Prop) : iK (.d (I q n)) k = k q n := rfl
theorem dK_d (x : D) (k : D → Prop) : dK (.d x) k = k x := rfl
theorem lenK_l (σ : St) (xs : List D) (k : Int → Prop) : lenK σ (.d (.l xs)) k = k xs.length := rfl
theorem lenK_o (σ : St) (r off n : Nat) (k : Int → Prop) : lenK σ (.o r off n) k = rwK σ r fun _ => k n := rfl

theorem ev_move (σ : St) (x : Operand) : evE P (.move x) σ C = C (σ.eval x) := rfl
theorem ev_pick (σ : St) (c a b : Operand) : evE P (.pick c a b) σ C = evK (σ.eval c) (.mk : Hid fun v => bK v fun t => cdK t (.mk : Hid (C (σ.eval a))) (.mk : Hid (C (σ.eval b)))) := rfl
theorem ev_load (σ : St) (t : TypeId) (a : Operand) : evE P (.load t a) σ C = evK (σ.eval a) (.mk : Hid fun v => ldK P t σ v C) := rfl
theorem ev_bin (σ : St) (op : BinOp) (t : TypeId) (x y : Operand) (yt : TypeId) : evE P (.binOp op t x y yt) σ C = evK (σ.eval x) (.mk : Hid fun v => evK (σ.eval y) (.mk : Hid fun w => binE P op t x y v w (C))) := rfl
theorem ev_fa (σ : St) (t : TypeId) (x : Operand) (f : Nat) : evE P (.fieldAddr t x f) σ C = evK (σ.eval x) (.mk : Hid fun v => faK P t σ f v C) := rfl
theorem ev_ia (σ : St) (t : TypeId) (x i : Operand) : evE P (.indexAddr t x i) σ C = evK (σ.eval i) (.mk : Hid fun v => iK v fun _ n => evK (σ.eval x) (.mk : Hid fun v => iaK P t σ v n (C))) := rfl
theorem sl3K_l (t : TypeId) (xs : List D) (lo hi : Option Int) (m : Int) : sl3K P t (.d (.l xs)) lo hi m C = ((lo = none ∧ hi = some (xs.length : Int) ∧ m = xs.length) ∧ slK P t fun e => tyK P e fun _ _ => C (.d (.tight xs))) := rfl
def sK (x : V) (k : List D → Prop) : Prop := dK x fun x => match x with
  | .s xs => k xs
  | _ => False
def tK (x : V) (k : List D → Prop) : Prop := dK x fun x => match x with
  | .t xs => k xs
  | _ => False
theorem tK_t (xs : List D) (k : List D → Prop) : tK (.d (.t xs)) k = k xs := rfl
def vK (x : V) (k : Value → Prop) : Prop := dK x fun x => match x with
  | .c xs => k xs
  | _ => False
theorem vK_c (v : Value) (k : Value → Prop) : vK (.d (.c v)) k = k v := rfl
theorem ev_extract (σ : St) (x : Operand) (n : Nat) : evE P (.extract x n) σ C = evK (σ.eval x) (.mk : Hid fun v => tK v fun xs => nthK xs n fun y => C (.d y)) := by
  simp only [evE, tK]
  congr 1
theorem ev_iface (σ : St) (t : TypeId) (x : Operand) : evE P (.makeInterface t x) σ C = evK (σ.eval x) (.mk : Hid fun v => vK v fun v => ncI P t = true ∧ C (.d (.c (.iface t v)))) := by
  simp only [evE, vK]
  congr 1
theorem ev_func (σ : St) (fn : Fn) (caps : List Operand) : evE P (.makeFunc fn #[] caps.toArray) σ C = evK (caps.map σ.eval) (.mk : Hid fun v => capsK v fun bs => C (.fp fn bs)) := by
  simp [evE, evK]
theorem capsK_nil (k : List Nat → Prop) : capsK [] k = k [] := rfl
theorem capsK_cons (b : Nat) (l : List V) (k : List Nat → Prop) : capsK (.p b 0 :: l) k = capsK l fun bs => k (b :: bs) := rfl
theorem optI_none (σ : St) (k : Option Int → Prop) : optI σ none k = k none := rfl
theorem optI_some (σ : St) (x : Operand) (k : Option Int → Prop) : optI σ (some x) k = evK (σ.eval x) (.mk : Hid fun v => iK v fun _ n => k (some n)) := rfl
theorem ev_build (σ : St) (t : TypeId) (x y : Operand) : evE P (.build t #[(0, x), (1, y)]) σ C = evK (σ.eval x) (.mk : Hid fun v => dK v fun x => evK (σ.eval y) (.mk : Hid fun v => dK v fun y => bdK P t (fun m n => x.cells.length = m ∧ y.cells.length = n ∧ x.cells.all D.one = true ∧ y.cells.all D.one = true) ∧ C (.d (.s (x.cells ++ y.cells))))) := by
  simp [evE, bldE, evK]
theorem ev_max (σ : St) (x y : Operand) (t : Array TypeId) : evE P (.call { callee := .builtin .max, args := #[x, y], argTypes := t }) σ C = evK (σ.eval x) (.mk : Hid fun v => iK v fun k a => evK (σ.eval y) (.mk : Hid fun v => iK v fun k' b => k = k' ∧ C (.d (I k (if b > a then b else a))))) := rfl

section
variable (op : BinOp) (t : TypeId) (x y : Operand)
theorem binE_i (k : IntKind) (a b : Int) : binE P op t x y (.d (I k a)) (.d (I k b)) C = binI op k a b C := by simp [binE, binC]
theorem binE_shl (k k' : IntKind) (a b : Int) : binE P .shl t x y (.d (I k a)) (.d (I k' b)) C = binI .shl k a b C := by simp [binE, binC]
theorem binE_shr (k k' : IntKind) (a b : Int) : binE P .shr t x y (.d (I k a)) (.d (I k' b)) C = binI .shr k a b C := by simp [binE, binC]
end
section
variable (k : IntKind) (a b : Int)
theorem bi_add : binI .add k a b C = (inK k (a + b) ∧ C (.d (I k (a + b)))) := rfl
theorem bi_sub : binI .sub k a b C = (inK k (a - b) ∧ C (.d (I k (a - b)))) := rfl
theorem bi_rem : binI .rem k a b C = ((0 ≤ a ∧ 0 < b) ∧ C (.d (I k (a % b)))) := rfl
theorem bi_eql : binI .eql k a b C = C (.d (Bo (decide (a = b)))) := rfl
theorem bi_neq : binI .neq k a b C = C (.d (Bo (!decide (a = b)))) := rfl
theorem bi_lss : binI .lss k a b C = C (.d (Bo (decide (a < b)))) := rfl
theorem bi_leq : binI .leq k a b C = C (.d (Bo (decide (a ≤ b)))) := rfl
theorem bi_gtr : binI .gtr k a b C = C (.d (Bo (decide (b < a)))) := rfl
theorem bi_geq : binI .geq k a b C = C (.d (Bo (decide (b ≤ a)))) := rfl
/-- A set. -/
@[reducible] def U (n : Nat) : D := .c (.int .u64 (n : Int))
theorem bi_and (m n : Nat) : binI .and .u64 (m : Int) (n : Int) C = ((m < 2 ^ 64 ∧ n < 2 ^ 64) ∧ C (.d (U (m &&& n)))) := by
  have : (0 ≤ (m : Int) ∧ (m : Int) < 2 ^ 64 ∧ 0 ≤ (n : Int) ∧ (n : Int) < 2 ^ 64) = (m < 2 ^ 64 ∧ n < 2 ^ 64) := by apply propext; omega
  simp only [binI, this, true_and, Int.toNat_natCast, U]
theorem bi_or (m n : Nat) : binI .or .u64 (m : Int) (n : Int) C = ((m < 2 ^ 64 ∧ n < 2 ^ 64) ∧ C (.d (U (m ||| n)))) := by
  have : (0 ≤ (m : Int) ∧ (m : Int) < 2 ^ 64 ∧ 0 ≤ (n : Int) ∧ (n : Int) < 2 ^ 64) = (m < 2 ^ 64 ∧ n < 2 ^ 64) := by apply propext; omega
  simp only [binI, this, true_and, Int.toNat_natCast, U]
theorem bi_andNot (m n : Nat) : binI .andNot .u64 (m : Int) (n : Int) C = ((m < 2 ^ 64 ∧ n < 2 ^ 64) ∧ C (.d (U (dif m n)))) := by
  have : (0 ≤ (m : Int) ∧ (m : Int) < 2 ^ 64 ∧ 0 ≤ (n : Int) ∧ (n : Int) < 2 ^ 64) = (m < 2 ^ 64 ∧ n < 2 ^ 64) := by apply propext; omega
  simp only [binI, this, true_and, Int.toNat_natCast, U]
theorem bi_shl : binI .shl k a b C = ((0 ≤ b ∧ b ≤ 64 ∧ k = .u64 ∧ inK k (a * 2 ^ b.toNat)) ∧ C (.d (I k (a * 2 ^ b.toNat)))) := rfl
theorem bi_shl1 (n : Nat) : binI .shl .u64 1 (n : Int) C = (n < 64 ∧ C (.d (U (2 ^ n)))) := by
  have h1 : (inK .u64 ((2 : Int) ^ n) ∧ n ≤ 64) = (n < 64) := by
    apply propext
    constructor
    · rintro ⟨⟨_, h⟩, h2⟩
      rcases Nat.lt_or_ge n 64 with h3 | h3
      · exact h3
      · have : n = 64 := by omega
        subst this
        simp [IntKind.max, IntKind.signed, IntKind.bits] at h
    · intro h
      have hp : 2 ^ n ≤ 2 ^ 63 := Nat.pow_le_pow_right (by omega) (by omega)
      have he : ((2 ^ n : Nat) : Int) = (2 : Int) ^ n := by simp
      have hpos : (0 : Int) < 2 ^ n := Int.pow_pos (by decide)
      refine ⟨⟨?_, ?_⟩, by omega⟩ <;> simp only [IntKind.min, IntKind.max, IntKind.signed, IntKind.bits] <;> simp <;> rw [← he] <;> omega
  have h2 : (0 ≤ (n : Int) ∧ (n : Int) ≤ 64 ∧ IntKind.u64 = .u64 ∧ inK .u64 (1 * 2 ^ (n : Int).toNat)) = (n < 64) := by
    rw [← h1]
    apply propext
    simp
    constructor
    · rintro ⟨h1, h2⟩; exact ⟨h2, by omega⟩
    · rintro ⟨h1, h2⟩; exact ⟨by omega, h1⟩
  rw [bi_shl, h2]
  simp [U]
theorem bi_shr : binI .shr k a b C = ((0 ≤ a ∧ 0 ≤ b ∧ b ≤ 64 ∧ k = .u64) ∧ C (.d (I k ((a.toNat / 2 ^ b.toNat : Nat))))) := rfl
end
end
theorem in_i64 (n : Int) : inK .i64 n = (-9223372036854775808 ≤ n ∧ n ≤ 9223372036854775807) := rfl
theorem in_u64 (n : Int) : inK .u64 n = (0 ≤ n ∧ n ≤ 18446744073709551615) := rfl

section
variable (t : TypeId) (C : V → Prop)
theorem ldK_q (σ : St) (xs : List D) : ldK P t σ (.d (.q xs)) C = tyK P t fun g n => match g with
    | true => n ≤ xs.length ∧ C (.d (.s (xs.take n)))
    | false => hdK xs fun y => C (.d y) := rfl
def sboxK (x : V) (k : List D → Prop) : Prop :=
  match x with
  | .d (.s ds) => k ds
  | _ => False
theorem ldK_p (tm bx : List V) (rw : List (Option Row)) (gh : List V) (fx : List (Value × V)) (b sub : Nat) : ldK P t ⟨tm, bx, rw, gh, fx⟩ (.p b sub) C = tyK P t fun g n => match g with
    | true => sboxK (bx.getD b .j) fun ds => if ds.length = n then sub = 0 ∧ C (.d (.s ds)) else sub + n ≤ ds.length ∧ C (.d (.s ((ds.drop sub).take n)))
    | false => nthK (bx.getD b .j).cells sub C := by
  simp only [ldK, sboxK]
  congr 1
theorem ldK_e (σ : St) (r i sub : Nat) : ldK P t σ (.e r i sub) C = rwK σ r fun row => tyK P t fun g n => match g with
    | true => sub = 0 ∧ n = row.sz ∧ atK row.xs i fun x => sK (.d x) fun ds => C (.d (.s ds))
    | false => atK row.xs i fun x => nthK x.cells sub fun y => C (.d y) := by
  simp only [ldK, sK, dK]
  congr 1
theorem faK_q (σ : St) (f : Nat) (xs : List D) : faK P t σ f (.d (.q xs)) C = fdK P t f fun off n => 0 < n ∧ C (.d (.q (xs.drop off))) := rfl
theorem faK_p (σ : St) (f b sub : Nat) : faK P t σ f (.p b sub) C = fdK P t f fun off n => 0 < n ∧ C (.p b (sub + off)) := rfl
theorem iaK_l (σ : St) (xs : List D) (i : Int) : iaK P t σ (.d (.l xs)) i C = (0 ≤ i ∧ slK P t fun e => atK xs i.toNat fun x => tyK P e (fun _ n => x.cells.length = n) ∧ C (.d (.q x.cells))) := rfl
theorem iaK_o (σ : St) (r off len : Nat) (i : Int) : iaK P t σ (.o r off len) i C = ((0 ≤ i ∧ i < len) ∧ slK P t fun e => rwK σ r fun row => tyK P e (fun _ n => row.sz = n) ∧ C (.e r (off + i.toNat) 0)) := rfl
theorem sliK_o (σ : St) (r off len : Nat) (lo hi : Option Int) : sliK P t σ (.o r off len) lo hi C = ((0 ≤ lo.getD 0 ∧ lo.getD 0 ≤ hi.getD len ∧ hi.getD len ≤ len) ∧ slK P t fun e => tyK P e fun _ n => rwK σ r (fun row => row.sz = n) ∧ C (.o r (off + (lo.getD 0).toNat) (hi.getD len - lo.getD 0).toNat)) := rfl
end

section
variable (ops : Array Oper) (K : St → Prop) (σ : St) (dst : Option Tmp) (ty : TypeId) (pos : String) (af : Array Edge) (g : Option (Nat × Bool))
theorem op_move (x : Operand) : awOp P ops ⟨dst, .move x, ty, pos, af, g⟩ σ K = evK (σ.put dst (σ.eval x)) (.mk : Hid K) := rfl
theorem op_assign (x : Operand) : awOp P ops ⟨dst, .assign x, ty, pos, af, g⟩ σ K = evK (σ.put dst (σ.eval x)) (.mk : Hid K) := rfl
theorem op_pick (c a b : Operand) : awOp P ops ⟨dst, .pick c a b, ty, pos, af, g⟩ σ K = evK (σ.eval c) (.mk : Hid fun v => bK v fun t => cdK t (.mk : Hid (evK (σ.put dst (σ.eval a)) (.mk : Hid K))) (.mk : Hid (evK (σ.put dst (σ.eval b)) (.mk : Hid K)))) := rfl
theorem op_load (t : TypeId) (a : Operand) : awOp P ops ⟨dst, .load t a, ty, pos, af, g⟩ σ K = evK (σ.eval a) (.mk : Hid fun v => ldK P t σ v fun v => evK (σ.put dst v) (.mk : Hid K)) := rfl
theorem op_bin (op : BinOp) (t : TypeId) (x y : Operand) (yt : TypeId) : awOp P ops ⟨dst, .binOp op t x y yt, ty, pos, af, g⟩ σ K = evK (σ.eval x) (.mk : Hid fun v => evK (σ.eval y) (.mk : Hid fun w => binE P op t x y v w (fun v => evK (σ.put dst v) (.mk : Hid K)))) := rfl
theorem op_not (t : TypeId) (x : Operand) : awOp P ops ⟨dst, .unOp .not t x, ty, pos, af, g⟩ σ K = evK (σ.eval x) (.mk : Hid fun v => bK v fun b => evK (σ.put dst (.d (Bo (!b)))) (.mk : Hid K)) := rfl
theorem op_fa (t : TypeId) (x : Operand) (f : Nat) : awOp P ops ⟨dst, .fieldAddr t x f, ty, pos, af, g⟩ σ K = evK (σ.eval x) (.mk : Hid fun v => faK P t σ f v fun v => evK (σ.put dst v) (.mk : Hid K)) := rfl
theorem op_ia (t : TypeId) (x i : Operand) : awOp P ops ⟨dst, .indexAddr t x i, ty, pos, af, g⟩ σ K = evK (σ.eval i) (.mk : Hid fun v => iK v fun _ n => evK (σ.eval x) (.mk : Hid fun v => iaK P t σ v n (fun v => evK (σ.put dst v) (.mk : Hid K)))) := rfl
theorem op_extract (x : Operand) (n : Nat) : awOp P ops ⟨dst, .extract x n, ty, pos, af, g⟩ σ K = evK (σ.eval x) (.mk : Hid fun v => tK v fun xs => nthK xs n fun y => evK (σ.put dst (.d y)) (.mk : Hid K)) := ev_extract (P := P) (fun v => K (σ.put dst v)) σ x n
theorem op_iface (t : TypeId) (x : Operand) : awOp P ops ⟨dst, .makeInterface t x, ty, pos, af, g⟩ σ K = evK (σ.eval x) (.mk : Hid fun v => vK v fun v => ncI P t = true ∧ evK (σ.put dst (.d (.c (.iface t v)))) (.mk : Hid K)) := ev_iface (fun v => K (σ.put dst v)) σ t x
theorem op_func (fn : Fn) (caps : List Operand) : awOp P ops ⟨dst, .makeFunc fn #[] caps.toArray, ty, pos, af, g⟩ σ K = evK (caps.map σ.eval) (.mk : Hid fun v => capsK v fun bs => evK (σ.put dst (.fp fn bs)) (.mk : Hid K)) := ev_func (P := P) (fun v => K (σ.put dst v)) σ fn caps
theorem op_slice (t : TypeId) (x : Operand) (lo hi : Option Operand) : awOp P ops ⟨dst, .slice t x lo hi none, ty, pos, af, g⟩ σ K = optI σ lo fun lo => optI σ hi fun hi => evK (σ.eval x) (.mk : Hid fun v => sliK P t σ v lo hi (fun v => evK (σ.put dst v) (.mk : Hid K))) := rfl
theorem op_build (t : TypeId) (x y : Operand) : awOp P ops ⟨dst, .build t #[(0, x), (1, y)], ty, pos, af, g⟩ σ K = evK (σ.eval x) (.mk : Hid fun v => dK v fun x => evK (σ.eval y) (.mk : Hid fun v => dK v fun y => bdK P t (fun m n => x.cells.length = m ∧ y.cells.length = n ∧ x.cells.all D.one = true ∧ y.cells.all D.one = true) ∧ evK (σ.put dst (.d (.s (x.cells ++ y.cells)))) (.mk : Hid K))) := ev_build (fun v => K (σ.put dst v)) σ t x y
theorem op_len (x : Operand) (t : TypeId) : awOp P ops ⟨dst, .call { callee := .builtin .len, args := #[x], argTypes := #[t] }, ty, pos, af, g⟩ σ K = slK P t fun _ => evK (σ.eval x) (.mk : Hid fun v => lenK σ v fun n => evK (σ.put dst (.d (I .i64 n))) (.mk : Hid K)) := rfl
theorem op_max (x y : Operand) (t : Array TypeId) : awOp P ops ⟨dst, .call { callee := .builtin .max, args := #[x, y], argTypes := t }, ty, pos, af, g⟩ σ K = evK (σ.eval x) (.mk : Hid fun v => iK v fun k a => evK (σ.eval y) (.mk : Hid fun v => iK v fun k' b => k = k' ∧ evK (σ.put dst (.d (I k (if b > a then b else a)))) (.mk : Hid K))) := rfl
theorem op_slice3 (t : TypeId) (x m : Operand) (lo hi : Option Operand) : awOp P ops ⟨dst, .slice t x lo hi (some m), ty, pos, af, g⟩ σ K = optI σ lo fun lo => optI σ hi fun hi => evK (σ.eval m) (.mk : Hid fun v => iK v fun _ m => evK (σ.eval x) (.mk : Hid fun v => sl3K P t v lo hi m (fun v => evK (σ.put dst v) (.mk : Hid K)))) := rfl
theorem op_append (s x : Operand) (t t' : TypeId) : awOp P ops ⟨dst, .call { callee := .builtin .append, args := #[s, x], argTypes := #[t, t'] }, ty, pos, af, g⟩ σ K = (t' = t ∧ evK (σ.eval s) (.mk : Hid fun v => evK (σ.eval x) (.mk : Hid fun w => apK P σ t v w fun v σ' => evK (σ'.put dst v) (.mk : Hid K)))) := rfl
theorem op_call (fo : Operand) (args : Array Operand) (ts : Array TypeId) : awOp P ops ⟨dst, .call { callee := .value fo, args := args, argTypes := ts }, ty, pos, af, g⟩ σ K = LoudH P (.mk : Hid (⟨dst, .call { callee := .value fo, args := args, argTypes := ts }, ty, pos, af, g⟩ : Oper)) σ (.mk : Hid K) := rfl
theorem op_alloc (t : TypeId) : awOp P ops ⟨dst, .alloc t, ty, pos, af, g⟩ σ K = zbK P t fun z _ => evK ((σ.addBox (constV z)).put dst (.p σ.bx.length 0)) (.mk : Hid K) := rfl
theorem op_box (t : TypeId) (x : Operand) : awOp P ops ⟨dst, .box t x, ty, pos, af, g⟩ σ K = ((σ.eval x).cells.all V.one = true ∧ evK ((σ.addBox (σ.eval x)).put dst (.p σ.bx.length 0)) (.mk : Hid K)) := rfl
theorem op_store (t : TypeId) (ad x : Operand) : awOp P ops ⟨dst, .store t ad x, ty, pos, af, g⟩ σ K = evK (σ.eval ad) (.mk : Hid fun v => evK (σ.eval x) (.mk : Hid fun w => stK P t σ v w fun σ' => evK (σ'.put dst junk) (.mk : Hid K))) := rfl
theorem op_make (t : TypeId) (l c : Operand) : awOp P ops ⟨dst, .makeSlice t l c, ty, pos, af, g⟩ σ K = evK (σ.eval l) (.mk : Hid fun v => evK (σ.eval c) (.mk : Hid fun w => mkK P σ t v w fun v σ' => evK (σ'.put dst v) (.mk : Hid K))) := rfl
end
end Go.Aw

namespace Go.Aw
universe u
variable {P : Program}

/-- It is shown by A; B is what was to be shown. -/
def OrH (A : Prop) {B : Prop} (_ : Hid B) : Prop := A ∨ B
theorem OrH.l {A B : Prop} (h : A) : OrH A (.mk : Hid B) := .inl h
theorem OrH.r {A B : Prop} (h : B) : OrH A (.mk : Hid B) := .inr h
theorem OrH.eq {A B : Prop} (h : A → B) : B = OrH A (.mk : Hid B) := propext ⟨.inr, fun h' => h'.elim h id⟩
theorem orH_T {B : Prop} : OrH True (.mk : Hid B) = True := by simp [OrH]
def V.isD : V → Bool
  | .d _ => true
  | .nl => true
  | _ => false
theorem isD_d (x : D) : V.isD (.d x) = true := rfl
theorem isD_nl : V.isD .nl = true := rfl
theorem isD_o (r o n : Nat) : V.isD (.o r o n) = false := rfl
theorem isD_fp (f : Fn) (o : List Nat) : V.isD (.fp f o) = false := rfl

/-- What a function gives for sure. -/
def FnD (P : Program) (f : FuncId) (ds : List D) (d : D) : Prop := FnA P f ds (fun r => r = .d d)
theorem FnD.of {f : FuncId} {ds : List D} {d : D} (h : FnA P f ds (fun r => ∃ x, r = .d x ∧ x = d)) : FnD P f ds d := h.mono fun r ⟨x, h1, h2⟩ => by rw [h1, h2]

/-- A call. -/
def CallH (P : Program) (f : FuncId) (ds : List D) (pure : Bool) (σ : St) (dst : Option Tmp) {K : St → Prop} (_ : Hid K) : Prop := ∃ R, FnA P f ds R ∧ ∀ r, R r → (pure || r.flat) = true ∧ resK σ dst r K
theorem CallH.of {f : FuncId} {ds : List D} {pure : Bool} {σ : St} {dst : Option Tmp} {K : St → Prop} {R : Res → Prop} (h : FnA P f ds R) (hk : ∀ r, R r → (pure || r.flat) = true ∧ resK σ dst r K) : CallH P f ds pure σ dst (.mk : Hid K) := ⟨R, h, hk⟩
def CallQ (P : Program) (f : FuncId) (ds : List D) (pure : Bool) {C : V → Prop} (_ : Hid C) : Prop := ∃ d, FnD P f ds d ∧ (pure || d.flat) = true ∧ C (.d d)

theorem CallH.eq {Pre : Prop} {f : FuncId} {ds : List D} {d : D} (h : Pre → FnD P f ds d) (pure : Bool) (σ : St) (dst : Option Tmp) (K : St → Prop) :
    CallH P f ds pure σ dst (.mk : Hid K) = OrH (Pre ∧ (pure || d.flat) = true ∧ evK (σ.put dst (.d d)) (.mk : Hid K)) (.mk : Hid (CallH P f ds pure σ dst (.mk : Hid K))) :=
  OrH.eq fun ⟨h0, h1, h2⟩ => ⟨_, h h0, by rintro r rfl; exact ⟨h1, h2⟩⟩
theorem CallQ.eq {Pre : Prop} {f : FuncId} {ds : List D} {d : D} (h : Pre → FnD P f ds d) (pure : Bool) (C : V → Prop) :
    CallQ P f ds pure (.mk : Hid C) = OrH (Pre ∧ (pure || d.flat) = true ∧ evK (V.d d) (.mk : Hid C)) (.mk : Hid (CallQ P f ds pure (.mk : Hid C))) :=
  OrH.eq fun ⟨h0, h1, h2⟩ => ⟨_, h h0, h1, h2⟩
theorem CallH.eq0 {f : FuncId} {ds : List D} {d : D} (h : FnD P f ds d) (pure : Bool) (σ : St) (dst : Option Tmp) (K : St → Prop) :
    CallH P f ds pure σ dst (.mk : Hid K) = OrH ((pure || d.flat) = true ∧ evK (σ.put dst (.d d)) (.mk : Hid K)) (.mk : Hid (CallH P f ds pure σ dst (.mk : Hid K))) :=
  OrH.eq fun ⟨h1, h2⟩ => ⟨_, h, by rintro r rfl; exact ⟨h1, h2⟩⟩
theorem CallQ.eq0 {f : FuncId} {ds : List D} {d : D} (h : FnD P f ds d) (pure : Bool) (C : V → Prop) :
    CallQ P f ds pure (.mk : Hid C) = OrH ((pure || d.flat) = true ∧ evK (V.d d) (.mk : Hid C)) (.mk : Hid (CallQ P f ds pure (.mk : Hid C))) :=
  OrH.eq fun ⟨h1, h2⟩ => ⟨_, h, h1, h2⟩

theorem tdK_pure {σ : St} {x : V} {k : D → Prop} (h : tdK σ x k) (hx : x.isD = true) : dK x k := by
  cases x <;> first | exact h | cases hx
theorem allT_pure {σ : St} : ∀ {l : List Operand} {k : List D → Prop}, allT σ l k → (l.all fun x => (σ.eval x).isD) = true → allD σ l k := by
  intro l
  induction l with
  | nil => intro k h _; exact h
  | cons x l ih =>
    intro k h hx
    simp only [List.all_cons, Bool.and_eq_true] at hx
    have h2 : dK (σ.eval x) fun d => allT σ l fun ds => k (d :: ds) := tdK_pure h hx.1
    show dK (σ.eval x) fun d => allD σ l fun ds => k (d :: ds)
    revert h2
    cases σ.eval x <;> intro h2
    case d => exact ih h2 hx.2
    case nl => exact ih h2 hx.2
    all_goals exact h2.elim

/-- A function's value. -/
def fnK (x : D) (k : FuncId → List D → Prop) : Prop :=
  match x with
  | .f (.func f) caps => k f caps
  | _ => False
theorem fnK_f (f : FuncId) (caps : List D) (k : FuncId → List D → Prop) : fnK (.f (.func f) caps) k = k f caps := rfl

theorem tdK_det {σ : St} {x : V} {k : D → Prop} (h : tdK σ x k) : ∃ d, k d ∧ tdK σ x (fun d' => d' = d) := by
  have hb : ∀ (ps : List Nat) (k : List D → Prop), tdK.bqK σ ps k → ∃ qs, k qs ∧ tdK.bqK σ ps (fun q => q = qs) := by
    intro ps
    induction ps with
    | nil => intro k h; exact ⟨[], h, rfl⟩
    | cons b ps ih =>
      intro k h
      unfold tdK.bqK at h ⊢
      split at h
      · rename_i x hx
        obtain ⟨qs, h1, h2⟩ := ih _ h
        refine ⟨_, h1, ?_⟩
        have : (fun q => (D.q x.cells :: q) = D.q x.cells :: qs) = (fun q => q = qs) := by funext q; simp
        simp only [this]
        exact h2
      · exact h.elim
  unfold tdK at h ⊢
  split at h
  · exact ⟨_, h, rfl⟩
  · exact ⟨_, h, rfl⟩
  · obtain ⟨row, hrow, h⟩ := rwK_inv h
    exact ⟨_, h, rwK_mk hrow rfl⟩
  · split at h
    · rename_i x hx
      exact ⟨_, h, rfl⟩
    · exact h.elim
  · obtain ⟨qs, h1, h2⟩ := hb _ _ h
    refine ⟨_, h1, ?_⟩
    rename_i fn ps
    have : (fun q => D.f fn q = D.f fn qs) = (fun q => q = qs) := by funext q; simp
    simp only [this]
    exact h2
  · exact h.elim
theorem tdK_imp {σ : St} {x : V} {k k' : D → Prop} (h : tdK σ x k) (hk : ∀ d, k d → k' d) : tdK σ x k' := by
  have hb : ∀ (ps : List Nat) (k k' : List D → Prop), tdK.bqK σ ps k → (∀ q, k q → k' q) → tdK.bqK σ ps k' := by
    intro ps
    induction ps with
    | nil => intro k k' h hk; exact hk _ h
    | cons b ps ih =>
      intro k k' h hk
      unfold tdK.bqK at h ⊢
      split at h
      · exact ih _ _ h (fun q => hk _)
      · exact h.elim
  unfold tdK at h ⊢
  split at h
  · exact hk _ h
  · exact hk _ h
  · obtain ⟨row, hrow, h⟩ := rwK_inv h
    exact rwK_mk hrow (hk _ h)
  · split at h
    · exact hk _ h
    · exact h.elim
  · exact hb _ _ _ h (fun q => hk _)
  · exact h.elim
theorem allT_det {σ : St} : ∀ {l : List Operand} {k : List D → Prop}, allT σ l k → ∃ ds, k ds ∧ allT σ l (fun ds' => ds' = ds) := by
  intro l
  induction l with
  | nil => intro k h; exact ⟨[], h, rfl⟩
  | cons x l ih =>
    intro k h
    obtain ⟨d, h1, h2⟩ := tdK_det h
    obtain ⟨ds, h3, h4⟩ := ih h1
    refine ⟨d :: ds, h3, tdK_imp h2 fun d' e => ?_⟩
    subst e
    have : (fun q => (d' :: q) = d' :: ds) = (fun q => q = ds) := by funext q; simp
    simp only [this]
    exact h4

def callK (P : Program) (o : Oper) (fo : Operand) (args : List Operand) (σ : St) (K : St → Prop) : Prop :=
  evK (σ.eval fo) (.mk : Hid fun x => tdK σ x fun d => fnK d fun f caps => allT σ args fun ds =>
    evK ((σ.eval fo).isD && args.all fun x => (σ.eval x).isD) (.mk : Hid fun p => evK (ds ++ caps) (.mk : Hid fun ds => CallH P f ds p σ o.dst (.mk : Hid K))))
theorem fnK_inv {d : D} {k : FuncId → List D → Prop} (h : fnK d k) : ∃ f caps, d = .f (.func f) caps ∧ k f caps := by
  unfold fnK at h
  split at h
  · exact ⟨_, _, rfl, h⟩
  · exact h.elim
theorem callK_sound {o : Oper} {fo : Operand} {args : List Operand} {ts : Array TypeId} {σ : St} {K : St → Prop} (ho : o.op = .call { callee := .value fo, args := args.toArray, argTypes := ts }) (h : callK P o fo args σ K) : Loud P o σ K := by
  obtain ⟨d, h1, h2⟩ := tdK_det h
  obtain ⟨f, caps, rfl, h1⟩ := fnK_inv h1
  obtain ⟨ds, ⟨R, h3, h4⟩, h5⟩ := allT_det h1
  cases hp : ((σ.eval fo).isD && args.all fun x => (σ.eval x).isD) with
  | true =>
    simp only [Bool.and_eq_true] at hp
    exact callA ho (tdK_pure h2 hp.1) (allT_pure h5 hp.2) h3 (fun r hr => (h4 r hr).2)
  | false =>
    refine callB ho h2 h5 h3 (fun r hr => ?_)
    have := h4 r hr
    simp only [hp, Bool.false_or] at this
    exact this
def callKQ (P : Program) (fo : Operand) (args : List Operand) (σ : St) (C : V → Prop) : Prop :=
  evK (σ.eval fo) (.mk : Hid fun x => tdK σ x fun d => fnK d fun f caps => allT σ args fun ds =>
    evK ((σ.eval fo).isD && args.all fun x => (σ.eval x).isD) (.mk : Hid fun p => evK (ds ++ caps) (.mk : Hid fun ds => CallQ P f ds p (.mk : Hid C))))
theorem callKQ_sound {o : Oper} {fo : Operand} {args : List Operand} {ts : Array TypeId} {σ : St} {C : V → Prop} (ho : o.op = .call { callee := .value fo, args := args.toArray, argTypes := ts }) (h : callKQ P fo args σ C) : awQC P o σ C := by
  obtain ⟨d, h1, h2⟩ := tdK_det h
  obtain ⟨f, caps, rfl, h1⟩ := fnK_inv h1
  obtain ⟨ds, ⟨r, h3, h4, h6⟩, h5⟩ := allT_det h1
  cases hp : ((σ.eval fo).isD && args.all fun x => (σ.eval x).isD) with
  | true =>
    simp only [Bool.and_eq_true] at hp
    exact awQC_A ho (tdK_pure h2 hp.1) (allT_pure h5 hp.2) h3 (fun _ h => h) h6
  | false =>
    simp only [hp, Bool.false_or] at h4
    exact awQC_B ho h2 h5 h3 (fun _ h => h) h4 h6

theorem call_H (dst : Option Tmp) (fo : Operand) (l : List Operand) (ts : Array TypeId) (ty : TypeId) (pos : String) (af : Array Edge) (g : Option (Nat × Bool)) (σ : St) (K : St → Prop) :
    LoudH P (.mk : Hid (⟨dst, .call { callee := .value fo, args := l.toArray, argTypes := ts }, ty, pos, af, g⟩ : Oper)) σ (.mk : Hid K) =
    OrH (callK P ⟨dst, .call { callee := .value fo, args := #[], argTypes := #[] }, ty, "", #[], none⟩ fo l σ K) (.mk : Hid (Loud P (⟨dst, .call { callee := .value fo, args := l.toArray, argTypes := ts }, ty, pos, af, g⟩ : Oper) σ K)) :=
  OrH.eq fun h => callK_sound rfl h
theorem callK_H (dst : Option Tmp) (op : Op) (ty : TypeId) (pos : String) (af : Array Edge) (g : Option (Nat × Bool)) (fo : Operand) (l : List Operand) (σ : St) (K : St → Prop) :
    callK P ⟨dst, op, ty, pos, af, g⟩ fo l σ K = evK (σ.eval fo) (.mk : Hid fun x => tdK σ x fun d => fnK d fun f caps => allT σ l fun ds =>
    evK ((σ.eval fo).isD && l.all fun x => (σ.eval x).isD) (.mk : Hid fun p => evK (ds ++ caps) (.mk : Hid fun ds => CallH P f ds p σ dst (.mk : Hid K)))) := rfl
theorem callKQ_H (fo : Operand) (l : List Operand) (σ : St) (C : V → Prop) :
    callKQ P fo l σ C = evK (σ.eval fo) (.mk : Hid fun x => tdK σ x fun d => fnK d fun f caps => allT σ l fun ds =>
    evK ((σ.eval fo).isD && l.all fun x => (σ.eval x).isD) (.mk : Hid fun p => evK (ds ++ caps) (.mk : Hid fun ds => CallQ P f ds p (.mk : Hid C)))) := rfl
theorem allT_nil (σ : St) (k : List D → Prop) : allT σ [] k = k [] := rfl
theorem allT_cons (σ : St) (x : Operand) (l : List Operand) (k : List D → Prop) : allT σ (x :: l) k = evK (σ.eval x) (.mk : Hid fun x => tdK σ x fun d => allT σ l fun ds => k (d :: ds)) := rfl
theorem allD_nil (σ : St) (k : List D → Prop) : allD σ [] k = k [] := rfl
theorem allD_cons (σ : St) (x : Operand) (l : List Operand) (k : List D → Prop) : allD σ (x :: l) k = evK (σ.eval x) (.mk : Hid fun x => dK x fun d => allD σ l fun ds => k (d :: ds)) := rfl
theorem td_d (σ : St) (x : D) (k : D → Prop) : tdK σ (.d x) k = k x := rfl
theorem td_nl (σ : St) (k : D → Prop) : tdK σ .nl k = k (.l []) := rfl
theorem td_o (σ : St) (r off len : Nat) (k : D → Prop) : tdK σ (.o r off len) k = rwK σ r fun row => k (.l ((row.xs.drop off).take len)) := rfl
def boxK (x : V) (k : D → Prop) : Prop :=
  match x with
  | .d x => k x
  | _ => False
theorem boxK_d (x : D) (k : D → Prop) : boxK (.d x) k = k x := rfl
theorem td_fp (σ : St) (fn : Fn) (ps : List Nat) (k : D → Prop) : tdK σ (.fp fn ps) k = tdK.bqK σ ps fun qs => k (.f fn qs) := rfl
theorem bq_nil (σ : St) (k : List D → Prop) : tdK.bqK σ [] k = k [] := rfl
theorem bq_cons (tm bx : List V) (rw : List (Option Row)) (gh : List V) (fx : List (Value × V)) (b : Nat) (bs : List Nat) (k : List D → Prop) : tdK.bqK ⟨tm, bx, rw, gh, fx⟩ (b :: bs) k = evK (bx.getD b .j) (.mk : Hid fun v => boxK v fun x => tdK.bqK ⟨tm, bx, rw, gh, fx⟩ bs fun qs => k (.q x.cells :: qs)) := by
  rw [tdK.bqK]
  simp only [evK, boxK]
  congr 1

theorem ret_1 (σ : St) (t : Tmp) (R : D → Prop) : retD P σ [.tmp t] R = evK (σ.eval (.tmp t)) (.mk : Hid fun v => tdK σ v R) := rfl
theorem ret_2 (σ : St) (t t2 : Tmp) (R : D → Prop) : retD P σ [.tmp t, .tmp t2] R = evK (σ.eval (.tmp t)) (.mk : Hid fun v => tdK σ v fun d => evK (σ.eval (.tmp t2)) (.mk : Hid fun v => tdK σ v fun d2 => R (.t [d, d2]))) := rfl
/-! ### Regions in a drawn order -/
def DrawH (P : Program) {ops : Array Oper} (_ : Hid ops) : Prop := P.follows .mixedOrders = true ∧ drawOK ops (headN ops) = true
theorem DrawH.of {ops : Array Oper} (h1 : P.follows .mixedOrders = true) (h2 : drawOK ops (headN ops) = true) : DrawH P (.mk : Hid ops) := ⟨h1, h2⟩
theorem draw_H (id : Nat) (l : List Oper) (Q : Exit → St → Prop) (σ : St) :
    AWH P (.mk : Hid (Code.region id l.toArray true)) (.mk : Hid Q) σ = OrH (DrawH P (.mk : Hid l.toArray) ∧ awH P l.toArray l σ (Q .normal)) (.mk : Hid (AW P (Code.region id l.toArray true) Q σ)) :=
  OrH.eq fun ⟨⟨h1, h2⟩, h3⟩ => draw_sound h1 h2 h3

section
variable (ops : Array Oper) (K : St → Prop) (σ : St) (dst : Option Tmp) (ty : TypeId) (pos : String) (af : Array Edge) (os : List Oper)
theorem h_nil : awH P ops [] σ K = K σ := rfl
def ldH (P : Program) (ops : Array Oper) (o : Oper) (os : List Oper) (σ : St) (K : St → Prop) (b : Bool) : Prop :=
  match b with
    | true => awOps P ops (o :: os) σ K
    | false => match o.guard with
      | none => awQ P o σ fun v => evK (σ.put o.dst v) (.mk : Hid fun σ' => awH P ops os σ' K)
      | some gw => evK (gval ops σ gw.1) (.mk : Hid fun v => gdK v gw.2 (awQ P o σ fun v => evK (σ.put o.dst v) (.mk : Hid fun σ' => awH P ops os σ' K)) (evK (σ.put o.dst junk) (.mk : Hid fun σ' => awH P ops os σ' K)))
theorem h_cons (o : Oper) : awH P ops (o :: os) σ K = ldH P ops o os σ K (isLoud o.op) := rfl
theorem ldH_t (o : Oper) : ldH P ops o os σ K true = awOps P ops (o :: os) σ K := rfl
theorem ldH_n (op : Op) : ldH P ops ⟨dst, op, ty, pos, af, none⟩ os σ K false = awQ P ⟨dst, op, ty, pos, af, none⟩ σ fun v => evK (σ.put dst v) (.mk : Hid fun σ' => awH P ops os σ' K) := rfl
theorem ldH_g (op : Op) (g : Nat) (w : Bool) : ldH P ops ⟨dst, op, ty, pos, af, some (g, w)⟩ os σ K false = evK (gval ops σ g) (.mk : Hid fun v => gdK v w (awQ P ⟨dst, op, ty, pos, af, some (g, w)⟩ σ fun v => evK (σ.put dst v) (.mk : Hid fun σ' => awH P ops os σ' K)) (evK (σ.put dst junk) (.mk : Hid fun σ' => awH P ops os σ' K))) := rfl
end
section
variable (σ : St) (dst : Option Tmp) (ty : TypeId) (pos : String) (af : Array Edge) (g : Option (Nat × Bool)) (C : V → Prop)
theorem q_call (fo : Operand) (l : List Operand) (ts : Array TypeId) : awQ P ⟨dst, .call { callee := .value fo, args := l.toArray, argTypes := ts }, ty, pos, af, g⟩ σ C =
    OrH (callKQ P fo l σ C) (.mk : Hid (awQC P ⟨dst, .call { callee := .value fo, args := l.toArray, argTypes := ts }, ty, pos, af, g⟩ σ C)) := OrH.eq fun h => callKQ_sound rfl h
theorem q_bi (b : Builtin) (l : Array Operand) (ts : Array TypeId) : awQ P ⟨dst, .call { callee := .builtin b, args := l, argTypes := ts }, ty, pos, af, g⟩ σ C = evE P (.call { callee := .builtin b, args := l, argTypes := ts }) σ C := rfl
theorem q_bs (t : TypeId) (len : Nat) (ps : List (Nat × Operand)) : awQ P ⟨dst, .buildSlice t len ps.toArray, ty, pos, af, g⟩ σ C = bsK P t len ps σ fun _ ds => C (.d (.l ds)) := by simp [awQ]
theorem q_move (x : Operand) : awQ P ⟨dst, .move x, ty, pos, af, g⟩ σ C = evE P (.move x) σ C := rfl
theorem q_pick (x y z : Operand) : awQ P ⟨dst, .pick x y z, ty, pos, af, g⟩ σ C = evE P (.pick x y z) σ C := rfl
theorem q_load (t : TypeId) (x : Operand) : awQ P ⟨dst, .load t x, ty, pos, af, g⟩ σ C = evE P (.load t x) σ C := rfl
theorem q_bin (op : BinOp) (t : TypeId) (x y : Operand) (yt : TypeId) : awQ P ⟨dst, .binOp op t x y yt, ty, pos, af, g⟩ σ C = evE P (.binOp op t x y yt) σ C := rfl
theorem q_fa (t : TypeId) (x : Operand) (f : Nat) : awQ P ⟨dst, .fieldAddr t x f, ty, pos, af, g⟩ σ C = evE P (.fieldAddr t x f) σ C := rfl
theorem q_ia (t : TypeId) (x i : Operand) : awQ P ⟨dst, .indexAddr t x i, ty, pos, af, g⟩ σ C = evE P (.indexAddr t x i) σ C := rfl
theorem q_build (t : TypeId) (ps : Array (Nat × Operand)) : awQ P ⟨dst, .build t ps, ty, pos, af, g⟩ σ C = evE P (.build t ps) σ C := rfl
end
/-! ### Which operations are loud -/
theorem il_move (x : Operand) : isLoud (.move x) = false := rfl
theorem il_pick (x y z : Operand) : isLoud (.pick x y z) = false := rfl
theorem il_load (t : TypeId) (x : Operand) : isLoud (.load t x) = false := rfl
theorem il_bin (op : BinOp) (t : TypeId) (x y : Operand) (yt : TypeId) : isLoud (.binOp op t x y yt) = false := rfl
theorem il_fa (t : TypeId) (x : Operand) (f : Nat) : isLoud (.fieldAddr t x f) = false := rfl
theorem il_ia (t : TypeId) (x i : Operand) : isLoud (.indexAddr t x i) = false := rfl
theorem il_build (t : TypeId) (ps : Array (Nat × Operand)) : isLoud (.build t ps) = false := rfl
theorem il_bs (t : TypeId) (n : Nat) (ps : Array (Nat × Operand)) : isLoud (.buildSlice t n ps) = false := rfl
theorem il_call (fo : Operand) (a : Array Operand) (ts : Array TypeId) : isLoud (.call { callee := .value fo, args := a, argTypes := ts }) = false := rfl
theorem il_max (a : Array Operand) (ts : Array TypeId) : isLoud (.call { callee := .builtin .max, args := a, argTypes := ts }) = false := rfl
theorem il_append (a : Array Operand) (ts : Array TypeId) : isLoud (.call { callee := .builtin .append, args := a, argTypes := ts }) = true := rfl
theorem il_store (t : TypeId) (x y : Operand) : isLoud (.store t x y) = true := rfl
end Go.Aw

namespace Go.Aw
universe u
variable {P : Program}

section
variable (tm bx : List V) (rw : List (Option Row)) (gh : List V) (fx : List (Value × V))
theorem addBox_mk (x : V) : St.addBox ⟨tm, bx, rw, gh, fx⟩ x = ⟨tm, bx ++ [x], rw, gh, fx⟩ := rfl
theorem addRow_mk (x : Row) : St.addRow ⟨tm, bx, rw, gh, fx⟩ x = ⟨tm, bx, rw ++ [some x], gh, fx⟩ := rfl
theorem setBox_mk (b : Nat) (x : V) : St.setBox ⟨tm, bx, rw, gh, fx⟩ b x = ⟨tm, bx.set b x, rw, gh, fx⟩ := rfl
theorem setRow_mk (b : Nat) (x : Row) : St.setRow ⟨tm, bx, rw, gh, fx⟩ b x = ⟨tm, bx, rw.set b (some x), gh, fx⟩ := rfl
theorem app_mk (r : Nat) (x : Row) : St.app ⟨tm, bx, rw, gh, fx⟩ r x = ⟨tm.map (V.kill r), bx.map (V.kill r), rw.set r (some x), gh.map (V.kill r), fx.map fun p => (p.1, V.kill r p.2)⟩ := rfl
theorem st_tm : St.tm ⟨tm, bx, rw, gh, fx⟩ = tm := rfl
theorem st_bx : St.bx ⟨tm, bx, rw, gh, fx⟩ = bx := rfl
theorem st_rw : St.rw ⟨tm, bx, rw, gh, fx⟩ = rw := rfl
theorem st_gh : St.gh ⟨tm, bx, rw, gh, fx⟩ = gh := rfl
end
theorem row_sz (n : Nat) (xs : List D) : Row.sz ⟨n, xs⟩ = n := rfl
theorem row_xs (n : Nat) (xs : List D) : Row.xs ⟨n, xs⟩ = xs := rfl
section
variable (r : Nat)
theorem kill_d (x : D) : V.kill r (.d x) = .d x := rfl
theorem kill_j : V.kill r .j = .j := rfl
theorem kill_p (b s : Nat) : V.kill r (.p b s) = .p b s := rfl
theorem kill_o (r' o n : Nat) : V.kill r (.o r' o n) = if r' = r then .j else .o r' o n := rfl
theorem kill_e (r' o n : Nat) : V.kill r (.e r' o n) = if r' = r then .j else .e r' o n := rfl
end
section
theorem cells_c (b : Value) : D.cells (.c b) = [.c b] := rfl
theorem cells_s (xs : List D) : D.cells (.s xs) = xs := rfl
theorem cells_l (xs : List D) : D.cells (.l xs) = [.l xs] := rfl
theorem vcells_c (b : Value) : V.cells (.d (.c b)) = [.d (.c b)] := rfl
theorem vcells_l (xs : List D) : V.cells (.d (.l xs)) = [.d (.l xs)] := rfl
theorem vcells_s (xs : List D) : V.cells (.d (.s xs)) = xs.map .d := rfl
theorem vcells_j : V.cells .j = [.j] := rfl
theorem vcells_nl : V.cells .nl = [.nl] := rfl
theorem vcells_o (r o n : Nat) : V.cells (.o r o n) = [.o r o n] := rfl
theorem one_i (k : IntKind) (n : Int) : D.one (I k n) = true := rfl
theorem one_b (b : Bool) : D.one (Bo b) = true := rfl
theorem one_l (xs : List D) : D.one (.l xs) = true := rfl
theorem vone_d (x : D) : V.one (.d x) = x.one := rfl
theorem vone_o (r o n : Nat) : V.one (.o r o n) = true := rfl
theorem constV_i (k : IntKind) (n : Int) : constV (.int k n) = .d (I k n) := rfl
theorem constV_b (b : Bool) : constV (.bool b) = .d (Bo b) := rfl
theorem constV_n : constV (.slice none 0 0) = .nl := rfl
theorem constV_a (us : Array Value) : constV (.agg us) = .d (.s (us.toList.map .c)) := rfl
end
section
variable (t : TypeId) (σ : St) (K : St → Prop)
theorem st_p (b sub : Nat) (x : V) : stK P t σ (.p b sub) x K = tyK P t fun _ n => (sub = 0 ∧ x.cells.all V.one = true ∧ x.cells.length = n ∧ (σ.bx.getD b .j).cells.length = n) ∧ evK (σ.setBox b x) (.mk : Hid K) := rfl
theorem st_e (r i sub : Nat) (x : V) : stK P t σ (.e r i sub) x K = rwK σ r fun row => tyK P t fun _ n => dK x fun d => (sub = 0 ∧ n = row.sz ∧ d.cells.all D.one = true ∧ d.cells.length = row.sz) ∧ evK (σ.setRow r ⟨row.sz, row.xs.set i d⟩) (.mk : Hid K) := rfl
def ap2 (P : Program) (σ : St) (s : V) (n b : Nat) (ys : List D) (K : V → St → Prop) : Prop :=
  match s with
    | .nl => (ys.length * b ≤ 140737488355328 ∧ ys.length ≤ 140737488355328) ∧ K (.o σ.rw.length 0 ys.length) ((σ.addRow ⟨n, []⟩).app σ.rw.length ⟨n, ys⟩)
    | .o r off len => rwK σ r fun row => ((ys = [] → off = 0) ∧ row.sz = n ∧ off + len = row.xs.length ∧ (len + ys.length) * b ≤ 140737488355328 ∧ len + ys.length ≤ 140737488355328) ∧ K (.o r 0 (len + ys.length)) (σ.app r ⟨n, row.xs.drop off ++ ys⟩)
    | .d (.tight xs) => ((∀ y ∈ xs, y.cells.length = n ∧ y.cells.all D.one = true) ∧ ys ≠ [] ∧ (xs.length + ys.length) * b ≤ 140737488355328 ∧ xs.length + ys.length ≤ 140737488355328) ∧ K (.o σ.rw.length 0 (xs.length + ys.length)) (σ.addRow ⟨n, xs ++ ys⟩)
    | _ => False
theorem ap_ (s x : V) (K : V → St → Prop) : apK P σ t s x K = slK P t fun e => tyK P e fun _ n => zbK P e fun z b => (0 < n ∧ z.cells.size = n) ∧ srcK σ n x fun ys => (∀ y ∈ ys, y.cells.length = n ∧ y.cells.all D.one = true) ∧ ap2 P σ s n b ys K := by
  simp only [apK, ap2]
  congr 1
theorem ap_o (r off len n b : Nat) (ys : List D) (K : V → St → Prop) : ap2 P σ (.o r off len) n b ys K = rwK σ r fun row => ((ys = [] → off = 0) ∧ row.sz = n ∧ off + len = row.xs.length ∧ (len + ys.length) * b ≤ 140737488355328 ∧ len + ys.length ≤ 140737488355328) ∧ evK (σ.app r ⟨n, row.xs.drop off ++ ys⟩) (.mk : Hid fun σ' => K (.o r 0 (len + ys.length)) σ') := rfl
theorem ap_t (xs : List D) (n b : Nat) (ys : List D) (K : V → St → Prop) : ap2 P σ (.d (.tight xs)) n b ys K = (((∀ y ∈ xs, y.cells.length = n ∧ y.cells.all D.one = true) ∧ ys ≠ [] ∧ (xs.length + ys.length) * b ≤ 140737488355328 ∧ xs.length + ys.length ≤ 140737488355328) ∧ evK (σ.addRow ⟨n, xs ++ ys⟩) (.mk : Hid fun σ' => K (.o σ.rw.length 0 (xs.length + ys.length)) σ')) := rfl
theorem src_l (n : Nat) (ys : List D) (K : List D → Prop) : srcK σ n (.d (.l ys)) K = K ys := rfl
theorem mk_ (l c : V) (K : V → St → Prop) : mkK P σ t l c K = iK l fun k n => iK c fun k' n' => slK P t fun e => tyK P e fun _ s => zbK P e fun z b => (k = .i64 ∧ k' = .i64 ∧ n' = n ∧ 0 ≤ n ∧ n ≤ 1048576 ∧ b ≤ 1048576 ∧ 0 < s ∧ z.cells.size = s) ∧
    evK (constV z) (.mk : Hid fun x => dK x fun d => (d.cells.length = s ∧ d.cells.all D.one = true) ∧ evK (σ.addRow ⟨s, List.replicate n.toNat d⟩) (.mk : Hid fun σ' => K (.o σ.rw.length 0 n.toNat) σ')) := rfl
theorem bs_ (len : Nat) (ps : List (Nat × Operand)) (k : Nat → List D → Prop) : bsK P t len ps σ k = slK P t fun e => tyK P e fun _ n => zbK P e fun z _ => (inOrder ps len = true ∧ 0 < n ∧ z.cells.size = n ∧ len * n ≤ 16777216) ∧
    evK (ps.map (·.2)) (.mk : Hid fun l => allD σ l fun ds => (∀ x ∈ ds, x.cells.length = n ∧ x.cells.all D.one = true) ∧ k n ds) := rfl
def bsL (dst : Option Tmp) (len : Nat) (σ : St) (n : Nat) (ds : List D) (b : Bool) {K : St → Prop} (_ : Hid K) : Prop :=
  match b with
    | true => K ((σ.addRow ⟨n, ds⟩).put dst (.o σ.rw.length 0 len))
    | false => K (σ.put dst (.d (.l ds)))
theorem op_bs (ops : Array Oper) (dst : Option Tmp) (ty : TypeId) (pos : String) (af : Array Edge) (g : Option (Nat × Bool)) (len : Nat) (ps : List (Nat × Operand)) :
    awOp P ops ⟨dst, .buildSlice t len ps.toArray, ty, pos, af, g⟩ σ K = bsK P t len ps σ fun n ds => bsL dst len σ n ds (stored ops dst) (.mk : Hid K) := by
  simp only [awOp, bsL]
  congr 1
theorem bsL_t (dst : Option Tmp) (len n : Nat) (ds : List D) : bsL dst len σ n ds true (.mk : Hid K) = evK ((σ.addRow ⟨n, ds⟩).put dst (.o σ.rw.length 0 len)) (.mk : Hid K) := rfl
theorem bsL_f (dst : Option Tmp) (len n : Nat) (ds : List D) : bsL dst len σ n ds false (.mk : Hid K) = evK (σ.put dst (.d (.l ds))) (.mk : Hid K) := rfl
end
/-! ### Which literals are stored -/
def stT (d : Option Tmp) : Op → Bool
  | .store _ _ (.tmp t) => d == some t
  | _ => false
def storedL (d : Option Tmp) : List Oper → Bool
  | [] => false
  | o :: l => stT d o.op || storedL d l
theorem stored_mk (l : List Oper) (d : Option Tmp) : stored l.toArray d = storedL d l := by
  unfold stored
  simp only
  induction l with
  | nil => rfl
  | cons o l ih =>
    simp only [List.any_cons, storedL, ih]
    congr 1
theorem sl_nil (d : Option Tmp) : storedL d [] = false := rfl
theorem sl_cons (d : Option Tmp) (dst : Option Tmp) (op : Op) (ty : TypeId) (pos : String) (af : Array Edge) (g : Option (Nat × Bool)) (l : List Oper) : storedL d (⟨dst, op, ty, pos, af, g⟩ :: l) = (stT d op || storedL d l) := rfl
theorem st_store_t (d : Option Tmp) (t : TypeId) (x : Operand) (y : Tmp) : stT d (.store t x (.tmp y)) = (d == some y) := rfl
theorem sT_move (d : Option Tmp) (x : Operand) : stT d (.move x) = false := rfl
theorem sT_assign (d : Option Tmp) (x : Operand) : stT d (.assign x) = false := rfl
theorem sT_pick (d : Option Tmp) (x y z : Operand) : stT d (.pick x y z) = false := rfl
theorem sT_load (d : Option Tmp) (t : TypeId) (x : Operand) : stT d (.load t x) = false := rfl
theorem sT_bin (d : Option Tmp) (op : BinOp) (t : TypeId) (x y : Operand) (yt : TypeId) : stT d (.binOp op t x y yt) = false := rfl
theorem sT_un (d : Option Tmp) (op : UnOp) (t : TypeId) (x : Operand) : stT d (.unOp op t x) = false := rfl
theorem sT_fa (d : Option Tmp) (t : TypeId) (x : Operand) (f : Nat) : stT d (.fieldAddr t x f) = false := rfl
theorem sT_ia (d : Option Tmp) (t : TypeId) (x i : Operand) : stT d (.indexAddr t x i) = false := rfl
theorem sT_extract (d : Option Tmp) (x : Operand) (n : Nat) : stT d (.extract x n) = false := rfl
theorem sT_slice (d : Option Tmp) (t : TypeId) (x : Operand) (a b c : Option Operand) : stT d (.slice t x a b c) = false := rfl
theorem sT_build (d : Option Tmp) (t : TypeId) (ps : Array (Nat × Operand)) : stT d (.build t ps) = false := rfl
theorem sT_bs (d : Option Tmp) (t : TypeId) (n : Nat) (ps : Array (Nat × Operand)) : stT d (.buildSlice t n ps) = false := rfl
theorem sT_call (d : Option Tmp) (c : Call) : stT d (.call c) = false := rfl
theorem sT_alloc (d : Option Tmp) (t : TypeId) : stT d (.alloc t) = false := rfl
theorem beq_some (a b : Nat) : ((some a : Option Nat) == some b) = decide (a = b) := by
  by_cases h : a = b <;> simp [h]
theorem vsz_int (k : IntKind) (n : Int) : (Value.cells (.int k n)).size = 1 := rfl
theorem vsz_agg (us : Array Value) : (Value.cells (.agg us)).size = us.size := rfl
theorem inO_1 (a : Operand) : inOrder [(0, a)] 1 = true := rfl
theorem inO_2 (a b : Operand) : inOrder [(0, a), (1, b)] 2 = true := rfl
theorem fm_nil (p : D → Prop) : (∀ x ∈ ([] : List D), p x) = True := by simp
theorem fm_cons (p : D → Prop) (a : D) (l : List D) : (∀ x ∈ a :: l, p x) = (p a ∧ ∀ x ∈ l, p x) := by simp
theorem take_map {α : Type} (f : α → D) (l : List α) : (l.map f).take l.length = l.map f := List.take_of_length_le (by simp)
def resH (σ : St) (dst : Option Tmp) (r : Res) {K : St → Prop} (_ : Hid K) : Prop := resK σ dst r K
theorem res_H (σ : St) (dst : Option Tmp) (r : Res) (K : St → Prop) : resK σ dst r K = resH σ dst r (.mk : Hid K) := rfl
theorem resH_row (σ : St) (dst : Option Tmp) (n : Nat) (xs : List D) (K : St → Prop) : resH σ dst (.row n xs) (.mk : Hid K) = evK ((σ.addRow ⟨n, xs⟩).put dst (.o σ.rw.length 0 xs.length)) (.mk : Hid K) := rfl

theorem hd_cons (y : D) (ys : List D) (k : D → Prop) : hdK (y :: ys) k = k y := rfl
/-! ### Facts of types -/
theorem tyK_eq {t : TypeId} {g : Bool} {n : Nat} (h : tyOf P t = some (g, n)) (k : Bool → Nat → Prop) : tyK P t k = k g n := by
  apply propext; unfold tyK; rw [h]
  exact ⟨fun ⟨a, b, e, h'⟩ => by cases e; exact h', fun h' => ⟨_, _, rfl, h'⟩⟩
theorem slK_eq {t : TypeId} {e : TypeId} (h : slE P t = some e) (k : TypeId → Prop) : slK P t k = k e := by simp [slK, h]
theorem fdK_eq {t : TypeId} {f o n : Nat} (h : fdOf P t f = some (o, n)) (k : Nat → Nat → Prop) : fdK P t f k = k o n := by
  apply propext; unfold fdK; rw [h]
  exact ⟨fun ⟨a, b, e, h'⟩ => by cases e; exact h', fun h' => ⟨_, _, rfl, h'⟩⟩
theorem zbK_eq {t : TypeId} {z : Value} {b : Nat} (h : zbOf P t = some (z, b)) (k : Value → Nat → Prop) : zbK P t k = k z b := by
  apply propext; unfold zbK; rw [h]
  exact ⟨fun ⟨a, b, e, h'⟩ => by cases e; exact h', fun h' => ⟨_, _, rfl, h'⟩⟩
theorem bdK_eq {t : TypeId} {o n : Nat} (h : bdOf P t = some (o, n)) (k : Nat → Nat → Prop) : bdK P t k = k o n := by
  apply propext; unfold bdK; rw [h]
  exact ⟨fun ⟨a, b, e, h'⟩ => by cases e; exact h', fun h' => ⟨_, _, rfl, h'⟩⟩
/-! ### Less is known -/
section
variable (nb nr : Nat) (x : V)
end
theorem Bo_eq (a b : Bool) : (Bo a = Bo b) = (a = b) := by simp [Bo]
theorem dc_eq (a b : Value) : (D.c a = D.c b) = (a = b) := by simp
theorem dl_eq (a b : List D) : (D.l a = D.l b) = (a = b) := by simp
/-- A function's contract, by the walk. -/
theorem FnD.go {f : FuncId} {fn : Func} {c : Code} {ds : List D} {d : D} {rvs : List ResultVar} {n : Nat} (hf : P.funcs[f]? = some fn) (hb : fn.body = some c) (hname : (fn.name == "runtime.NumGoroutine") = false) (hr : fn.results = rvs.toArray) (hn : fn.ntmps = n)
    (h : aw P c (Qret P rvs (fun x => x = d)) { tm := ds.map .d ++ List.replicate (n - ds.length) .j, bx := [], rw := [] }) : FnD P f ds d := by
  subst hn
  have e : rvs = fn.results.toList := by rw [hr]
  subst e
  exact FnD.of (FnA_d hf hb hname h)
theorem FnA.go {f : FuncId} {fn : Func} {c : Code} {ds : List D} {R : D → Prop} {rvs : List ResultVar} {n : Nat} (hf : P.funcs[f]? = some fn) (hb : fn.body = some c) (hname : (fn.name == "runtime.NumGoroutine") = false) (hr : fn.results = rvs.toArray) (hn : fn.ntmps = n)
    (h : aw P c (Qret P rvs R) { tm := ds.map .d ++ List.replicate (n - ds.length) .j, bx := [], rw := [] }) : FnA P f ds (fun r => ∃ d, r = .d d ∧ R d) := by
  subst hn
  have e : rvs = fn.results.toList := by rw [hr]
  subst e
  exact FnA_d hf hb hname h

/-- Slots by number. -/
def slots (n : Nat) (ps : List (Nat × V)) : List V := ps.foldl (fun l p => l.set p.1 p.2) (List.replicate n .j)
end Go.Aw

namespace Go.Aw
open Go.RowKit
variable {P : Program}

/-- What is said of σ' is said of σ. -/
def Wkn (σ σ' : St) : Prop := ∀ (E : Env) (a : Act) (w : World), RelS E σ a w → RelS E σ' a w
theorem Wkn.refl (σ : St) : Wkn σ σ := fun _ _ _ h => h
theorem Wkn.trans {a b c : St} (h : Wkn a b) (k : Wkn b c) : Wkn a c := fun E x w hr => k E x w (h E x w hr)
theorem Wkn.le {σ σ' : St} (h : Le σ σ') : Wkn σ σ' := fun _ _ _ hr => h.relS hr

theorem Rel.conv {E E' : Env} {σ σ' : St} {μ : Map} {a : Act} {w w' : World} (h : Rel E σ μ a w) (hbx : σ'.bx = σ.bx) (hrw : σ'.rw = σ.rw) (hb : ∀ b, w'.heap[b]? = w.heap[b]? ∨ noCells w b) (hsz : w.heap.size ≤ w'.heap.size)
    (hfz : ∀ b, Fz E w μ σ b → E'.N b ∨ E'.w0.heap.size ≤ b ∨ E'.Ow b) : MemOK E' w' μ σ' ∧ ∀ (x : V) (v : Value), RelV E w μ σ x v → RelV E' w' μ σ' x v := by
  have hcell : ∀ (b : Nat) {C et fr}, w.heap[b]? = some (.cells C et fr) → w'.heap[b]? = some (.cells C et fr) := fun b C et fr e => by
    rcases hb b with h' | h'
    · rw [h']; exact e
    · exact absurd e (h' C et fr)
  have hroom : ∀ b n, Room w b n → Room w' b n := by
    rintro b n ⟨C, et, fr, h1, h2⟩
    exact ⟨C, et, fr, hcell b h1, h2⟩
  have hown : ∀ b, Own μ σ' b ↔ Own μ σ b := fun b => by unfold Own; rw [hbx, hrw]
  have hF : ∀ b, Fz E w μ σ b → Fz E' w' μ σ' b ∧ (w'.heap[b]? = w.heap[b]? ∨ noCells w b) := fun b hf => ⟨⟨hfz b hf, Nat.lt_of_lt_of_le hf.2.1 hsz, fun ho => hf.2.2 ((hown b).1 ho)⟩, hb b⟩
  have hD : ∀ {d : D} {v : Value}, RelD w (Fz E w μ σ) d v → RelD w' (Fz E' w' μ σ') d v := fun hd => hd.mono hF
  have hp : ∀ {b sub : Nat} {v : Value}, RelP μ σ b sub v → RelP μ σ' b sub v := fun hp => ⟨by rw [hbx]; exact hp.1, hp.2⟩
  have hV : ∀ (x : V) (v : Value), RelV E w μ σ x v → RelV E' w' μ σ' x v := by
    intro x v hx
    cases x with
    | d x => exact hD hx
    | j => trivial
    | nl => exact hx
    | o r off len =>
      obtain ⟨⟨h1, h2⟩, h3⟩ := hx
      refine ⟨⟨by rw [hrw]; exact h1, h2⟩, fun row hr => ?_⟩
      obtain ⟨h4, h5⟩ := h3 row (by rw [← hrw]; exact hr)
      refine ⟨h4, h5.imp id ?_⟩
      rintro ⟨b, sh, A, cap, g1, g2, g3, g4, g5⟩
      exact ⟨b, sh, A, cap, g1, g2, g3, g4, hroom _ _ g5⟩
    | p b sub => exact hp hx
    | e r idx sub =>
      obtain ⟨⟨h1, h2⟩, h3⟩ := hx
      exact ⟨⟨by rw [hrw]; exact h1, h2⟩, fun row hr => h3 row (by rw [← hrw]; exact hr)⟩
    | fp fn ps =>
      obtain ⟨us, h1, h2, h3⟩ := hx
      exact ⟨us, h1, h2, fun k b hk => let ⟨u, h4, h5⟩ := h3 k b hk; ⟨u, h4, hp h5⟩⟩
  refine ⟨⟨by rw [hbx]; exact h.mem.bb, by rw [hbx, hrw]; exact h.mem.br, by rw [hrw]; exact h.mem.rr, fun i x hx => ?_, fun r row hr => ?_⟩, hV⟩
  · rw [hbx] at hx
    obtain ⟨C, et, g1, g2, g3⟩ := h.mem.box i x hx
    exact ⟨C, et, hcell _ g1, g2, fun k y u hy hu => hV _ _ (g3 k y u hy hu)⟩
  · rw [hrw] at hr
    have := h.mem.row r row hr
    cases hm : μ.r r with
    | none => rw [hm] at this; exact this
    | some p =>
      obtain ⟨b, sh⟩ := p
      rw [hm] at this
      obtain ⟨k0, k1, C, et, k2, k3, k4⟩ := this
      exact ⟨k0, k1, C, et, hcell _ k2, k3, fun i k x y u hx hy hu => hD (k4 i k x y u hx hy hu)⟩

theorem Rel.move {E E' : Env} {σ σ' : St} {μ : Map} {a a' : Act} {w w' : World} (h : Rel E σ μ a w) (hbx : σ'.bx = σ.bx) (hrw : σ'.rw = σ.rw) (hb : ∀ b, w'.heap[b]? = w.heap[b]? ∨ noCells w b) (hsz : w.heap.size ≤ w'.heap.size)
    (hfz : ∀ b, Fz E w μ σ b → E'.N b ∨ E'.w0.heap.size ≤ b ∨ E'.Ow b) (hstp : Stp E'.Ow E'.w0 w') (hown : ∀ b, Own μ σ b → E'.w0.heap.size ≤ b ∨ E'.Ow b) (hmk : Marks E'.w0 w' a') (hpin : PinOK E' w')
    (htm : a'.tmps.size = σ'.tm.length ∧ ∀ (k : Nat) (x : V) (u : Value), σ'.tm[k]? = some x → a'.tmps[k]? = some u → RelV E w μ σ x u)
    (hgh : E'.gh.length = σ'.gh.length ∧ ∀ (k : Nat) (x : V) (u : Value), σ'.gh[k]? = some x → E'.gh[k]? = some u → RelV E w μ σ x u) (hfx : ∀ (v : Value) (x : V), (v, x) ∈ σ'.fx → RelV E w μ σ x v) : Rel E' σ' μ a' w' := by
  obtain ⟨h1, h2⟩ := h.conv (E' := E') (σ' := σ') hbx hrw hb hsz hfz
  refine ⟨hstp, fun b hb => hown b ?_, h1, ⟨htm.1, fun k x u hx hu => h2 _ _ (htm.2 k x u hx hu)⟩, hmk, ⟨hgh.1, fun k x u hx hu => h2 _ _ (hgh.2 k x u hx hu)⟩, hpin, fun v x hx => h2 _ _ (hfx v x hx)⟩
  unfold Own at hb ⊢
  rwa [hbx, hrw] at hb

/-- A function that yields these numbers, one by one. -/
def IterA (P : Program) (gf : FuncId) (caps : List D) (xs : List Int) : Prop :=
  (∀ args w, (callFunc gf args).run P w = .ok (.enter gf args) w) ∧
  ∀ (w : World) (N : Nat → Prop) (us : Array Value), us.size = caps.length → (∀ (k : Nat) (d : D) (u : Value), caps[k]? = some d → us[k]? = some u → RelD w N d u) →
    ∀ (l : Nat) (J : List Int → World → Prop) (Jx : World → Prop) (W : World),
      (∀ pre W, J pre W → Gl P W) → (∀ pre W, J pre W → ∀ b, N b → W.heap[b]? = w.heap[b]?) → (∀ pre W W', J pre W → Stp (fun _ => False) W W' → J pre W') → (∀ W W', Jx W → Stp (fun _ => False) W W' → Jx W') →
      (∀ pre x W1, J pre W1 → (pre ++ [x]) <+: xs → YieldAt Fence.wide 0 P l #[.int .i64 x] W1 fun e W' => (e = .returned (.bool true) ∧ J (pre ++ [x]) W') ∨ (e = .returned (.bool false) ∧ Jx W')) →
      J [] W → CallsIn Fence.wide 0 P gf (#[.func (.yield l) #[] #[]] ++ us) W fun e W' => (∃ v, e = .returned v) ∧ (J xs W' ∨ Jx W')

def Qn (K : St → Prop) : Exit → St → Prop
  | .normal, σ => K σ
  | _, _ => False
/-- Behind a round: the slots are those of the loop. -/
def St.back (σ : St) : St := { tm := σ.gh, bx := σ.bx, rw := σ.rw, gh := [] }
def Qrd (Q : Exit → St → Prop) (K : St → Prop) : Exit → St → Prop
  | .normal, σ => K σ.back
  | .ret, σ => Q .ret σ.back
  | .exit id, σ => Q (.exit id) σ.back
  | _, _ => False
end Go.Aw

namespace Go.Aw
open Go.RowKit
variable {P : Program}

theorem notCells_own {E : Env} {σ : St} {μ : Map} {a : Act} {w : World} (h : Rel E σ μ a w) {k : Nat} {o : Obj} (hk : w.heap[k]? = some o) (ho : o.isCells = false) : ¬ Own μ σ k := fun hb => by
  obtain ⟨C, et, fr, h1⟩ := h.mem.own_cells hb
  rw [h1] at hk
  cases hk
  cases ho

theorem putObj_or {w : World} {l : Nat} {o o' : Obj} (h : w.heap[l]? = some o) (ho : o.isCells = false) (b : Nat) : (w.putObj l o').heap[b]? = w.heap[b]? ∨ noCells w b := by
  by_cases e : b = l
  · subst e
    exact .inr (fun C et fr e => by rw [h] at e; cases e; cases ho)
  · exact .inl (World.putObj_heap_other e)

/-- Behind a round: the slots are those that were put away. -/
def QrdB (bk : St → St) (Q : Exit → St → Prop) (K : St → Prop) : Exit → St → Prop
  | .normal, σ => K (bk σ)
  | .ret, σ => Q .ret (bk σ)
  | .exit id, σ => Q (.exit id) (bk σ)
  | _, _ => False

/-- **A range over numbers that a function yields**, whatever else is put away. -/
theorem AW_rangeX {ι : Type} (T G : List V) (B : ι → List V) (R : ι → List (Option Row)) (I : List Int → ι → Prop) {f : Operand} {p : Tmp} {asg body : Code} {Q : Exit → St → Prop} {gf : FuncId} {caps : List D} {xs : List Int} (i0 : ι)
    (bk : St → St) (hbk : ∀ σ : St, σ.gh.length = T.length + G.length → bk σ = { tm := σ.gh.take T.length, bx := σ.bx, rw := σ.rw, gh := σ.gh.drop T.length })
    (hit : IterA P gf caps xs) (hf : St.eval ⟨T, B i0, R i0, G, []⟩ f = .d (.f (.func gf) caps)) (hI : I [] i0)
    (round : ∀ pre x i, (pre ++ [x]) <+: xs → I pre i → aw P asg (Qn fun σ1 => aw P body (QrdB bk Q fun σ' => ∃ j, I (pre ++ [x]) j ∧ Wkn σ' ⟨T, B j, R j, G, []⟩) σ1) ⟨T.set p (.d (Go.Aw.I .i64 x)), B i, R i, T ++ G, []⟩)
    (done : ∀ i, I xs i → Q .normal ⟨T, B i, R i, G, []⟩) : AW P (.rangeFunc f #[p] asg body) Q ⟨T, B i0, R i0, G, []⟩ := by
  rintro E a w he ⟨μ0, hr0⟩
  -- the function's value
  have hfv := hr0.eval f
  rw [hf] at hfv
  generalize hv : a.eval f = vf at hfv
  cases hfv with
  | f _ _ us hul hur =>
  -- the loop's record
  obtain ⟨S0, hS0⟩ : ∃ S0 : St, S0 = ⟨T, B i0, R i0, G, []⟩ := ⟨_, rfl⟩
  rw [← hS0] at hr0 hur
  have hE0 : ∀ {N : Nat → Prop} {gh : List Value} {ro : Option Nat} {pin : Nat → Obj → Prop} {hro}, EOK P { w0 := w, N := N, Ow := Own μ0 S0, gh := gh, ro := ro, pin := pin, hro := hro } := ⟨he.gl hr0, fun g hg => he.own hr0 hg⟩
  have hTa : a.tmps.size = T.length := by have := hr0.tm.1; rw [hS0] at this; exact this
  have hTl : a.tmps.toList.length = T.length := by rw [Array.length_toList]; exact hTa
  have hGa : E.gh.length = G.length := by have := hr0.gh.1; rw [hS0] at this; exact this
  refine wpIn_rangeFunc ?_
  intro fn hfn
  obtain ⟨l, mk, d0, W1, hent, hl1, hL0, hK1, hs1⟩ : ∃ (l : Nat) (mk : Bool) (d0 : Nat) (W1 : World),
      (Instr.enterLoop fn a.tmps #[p] asg body E.ro).run P w = .ok (l, if mk then [{ target := .collected w.heap.size, args := #[] }] else []) W1 ∧ (w.heap.size ≤ l ∧ (mk = true → l ≠ w.heap.size)) ∧
      W1.heap[l]? = some (.loop { state := .ready, pending := none, fn, tmps := a.tmps, params := #[p], assign := asg, body, defers := d0 }) ∧ (mk = true → W1.heap[w.heap.size]? = some (.deferred (some []))) ∧ Stp (fun _ => False) w W1 := by
    cases hE : E.ro with
    | none =>
      refine ⟨w.heap.size + 1, true, w.heap.size, (w.alloc (.deferred (some []))).alloc (.loop { state := .ready, pending := none, fn, tmps := a.tmps, params := #[p], assign := asg, body, defers := w.heap.size }), run_enterLoop_outer _ _ _ _ _, ⟨by omega, fun _ => by omega⟩, ?_, fun _ => ?_, ?_⟩
      · have := World.alloc_heap_new (w.alloc (.deferred (some []))) (.loop { state := .ready, pending := none, fn, tmps := a.tmps, params := #[p], assign := asg, body, defers := w.heap.size }); rwa [World.size_alloc] at this
      · exact (Below.heap_alloc _ _ _ (by simp)).trans (World.alloc_heap_new w _)
      · exact (Stp.alloc (Ow := fun _ => False) w _).trans (Stp.alloc (Ow := fun _ => False) _ _) (fun _ h => h.elim)
    | some l0 =>
      obtain ⟨r0, h0⟩ := E.hro l0 hE
      have h1 := (hr0.pin _ _ h0).2
      refine ⟨w.heap.size, false, r0.defers, w.alloc (.loop { state := .ready, pending := none, fn, tmps := a.tmps, params := #[p], assign := asg, body, defers := r0.defers }), run_enterLoop_inner h1 _ _ _ _ _, ⟨Nat.le_refl _, (fun h => by cases h)⟩, World.alloc_heap_new w _, (fun h => by cases h), Stp.alloc w _⟩
  obtain ⟨rec, hrec⟩ : ∃ rec : LoopState → Option Code → Loop, rec = fun st pe => { state := st, pending := pe, fn, tmps := a.tmps, params := #[p], assign := asg, body, defers := d0 } := ⟨_, rfl⟩
  have hL1 : W1.heap[l]? = some (.loop (rec .ready none)) := by rw [hL0, hrec]
  let a0 : Act := { tmps := a.tmps, defers := [] }
  let pins : Loop → Nat → Obj → Prop := fun o k ob => (k = l ∧ ob = .loop o) ∨ (mk = true ∧ k = w.heap.size ∧ ob = .deferred (some []))
  let JE : Loop → Env := fun o => { w0 := w, N := Fz E w μ0 S0, Ow := Own μ0 S0, pin := pins o, gh := E.gh }
  let RE : Loop → Env := fun o => { w0 := w, N := Fz E w μ0 S0, Ow := Own μ0 S0, pin := pins o, gh := a.tmps.toList ++ E.gh, ro := some l, hro := fun l' h => by cases h; exact ⟨o, .inl ⟨rfl, rfl⟩⟩ }
  have a0m : ∀ w', Marks w w' a0 := fun w' => ⟨[], rfl, by simp, by simp⟩
  let J : List Int → World → Prop := fun pre W => ∃ i, I pre i ∧ RelS (JE (rec .ready none)) ⟨T, B i, R i, G, []⟩ a0 W
  let Jx : World → Prop := fun W => ∃ c σf, ((c = .ret ∧ Q .ret σf) ∨ ∃ id, c = .exit id ∧ Q (.exit id) σf) ∧ RelS (JE (rec .done (some c))) σf a0 W
  -- what a round's world and a record's turn come to
  have turn : ∀ {o o' : Loop} {σ σ' : St} {μ : Map} {a1 a2 : Act} {V : World} {E1 E2 : Env} (_ : Rel E1 σ μ a1 V) (_ : E1.w0 = w) (_ : E1.N = Fz E w μ0 S0) (_ : E1.Ow = Own μ0 S0) (_ : E1.pin = pins o)
      (_ : E2.w0 = w) (_ : E2.N = Fz E w μ0 S0) (_ : E2.Ow = Own μ0 S0) (_ : E2.pin = pins o') (_ : σ'.bx = σ.bx) (_ : σ'.rw = σ.rw)
      (_ : ∀ W', Marks w V a2 → (∀ k o, V.heap[k]? = some o → o.isCells = false → k ≠ l → W'.heap[k]? = some o) → Marks w W' a2) (_ : Marks w V a2)
      (_ : a2.tmps.size = σ'.tm.length ∧ ∀ (k : Nat) (x : Go.Aw.V) (u : Value), σ'.tm[k]? = some x → a2.tmps[k]? = some u → RelV E1 V μ σ x u)
      (_ : E2.gh.length = σ'.gh.length ∧ ∀ (k : Nat) (x : Go.Aw.V) (u : Value), σ'.gh[k]? = some x → E2.gh[k]? = some u → RelV E1 V μ σ x u) (_ : ∀ (v : Value) (x : Go.Aw.V), (v, x) ∈ σ'.fx → RelV E1 V μ σ x v),
      Rel E2 σ' μ a2 (V.putObj l (.loop o')) := by
    intro o o' σ σ' μ a1 a2 V E1 E2 h e1 e2 e3 e4 f1 f2 f3 f4 hbx hrw hmk hm htm hgh hfx
    have hp : PinOK E1 V := h.pin
    have hVl : V.heap[l]? = some (.loop o) := (hp _ _ (by rw [e4]; exact .inl ⟨rfl, rfl⟩)).2
    have hlt := (Array.getElem?_eq_some_iff.1 hVl).1
    refine h.move hbx hrw (putObj_or hVl rfl) (by simp) (fun b hb => ?_) ?_ (fun b hb => ?_) ?_ ?_ htm hgh hfx
    · rw [f1, f2, f3]
      obtain ⟨hb, _, _⟩ := hb
      rwa [e1, e2, e3] at hb
    · have := h.stp
      rw [e1, e3] at this
      rw [f1, f3]
      exact ⟨this.os, this.tape, this.output, by simpa using this.size, fun k hk hn => (World.putObj_heap_other (by omega)).trans (this.block k hk hn)⟩
    · have := h.own b hb
      rw [e1, e3] at this
      rw [f1, f3]
      exact this
    · rw [f1]
      exact hmk _ hm (fun k o hk _ hne => (World.putObj_heap_other hne).trans hk)
    · intro k ob hk
      rw [f4] at hk
      rcases hk with ⟨rfl, rfl⟩ | ⟨hmk1, rfl, rfl⟩
      · exact ⟨rfl, World.putObj_heap_same hlt⟩
      · have hVd : V.heap[w.heap.size]? = some (.deferred (some [])) := (hp _ _ (by rw [e4]; exact .inr ⟨hmk1, rfl, rfl⟩)).2
        have := hl1.2 hmk1
        exact ⟨rfl, (World.putObj_heap_other (fun e => this e.symm)).trans hVd⟩
  have hJ0 : J [] W1 := by
    refine ⟨i0, hI, μ0, ?_⟩
    rw [← hS0]
    have hl := hr0.later hs1
    refine hl.move (E' := JE (rec .ready none)) (a' := a0) rfl rfl (fun _ => .inl rfl) (Nat.le_refl _) (fun b hb => ?_) ?_ (fun b hb => .inr hb) (a0m _) ?_ ⟨hl.tm.1, hl.tm.2⟩ ⟨hl.gh.1, hl.gh.2⟩ hl.fx
    · by_cases hbw : b < w.heap.size
      · exact .inl ⟨hb.1, hbw, hb.2.2⟩
      · exact .inr (.inl (by show w.heap.size ≤ b; omega))
    · exact hs1.mono (fun _ _ h => h.elim)
    · rintro k ob (⟨rfl, rfl⟩ | ⟨hmk1, rfl, rfl⟩)
      · exact ⟨rfl, hL1⟩
      · exact ⟨rfl, hK1 hmk1⟩
  refine ⟨l, if mk then [{ target := .collected w.heap.size, args := #[] }] else [], W1, { target := .fn (.func gf) us, args := #[.func (.yield l) #[] #[]] }, W1, gf,
    #[.func (.yield l) #[] #[]] ++ us, W1, hent, ?_, fun _ _ => trivial, ?_, fun h => (by cases h), ?_⟩
  · simp only [resolve, hv]
    simp [go_sem]
  · simp [invoke, go_sem, hit.1]
  · have key := hit.2 w (Fz E w μ0 S0) us hul hur l J Jx W1 (fun pre W ⟨_, _, _, hrJ⟩ => hE0.gl hrJ) ?_ ?_ ?_ ?_ hJ0
    · have key' : CallsIn (FW E.ro) 0 P gf (#[.func (.yield l) #[] #[]] ++ us) W1 fun e W' => (∃ v, e = .returned v) ∧ (J xs W' ∨ Jx W') := key
      refine CallsIn.mono key' ?_
      have back : ∀ {o : Loop} {σ : St} {W2 : World}, RelS (JE o) σ a0 W2 → o.state ≠ .busy → (Instr.endLoop l).run P W2 = .ok o.pending (W2.putObj l (.loop { o with state := .exhausted })) ∧
          RelS E σ { a with defers := (if mk then [{ target := .collected w.heap.size, args := #[] }] else []) ++ a.defers } (W2.putObj l (.loop { o with state := .exhausted })) := by
        rintro o σ W2 ⟨μ, h⟩ hb
        have hVl : W2.heap[l]? = some (.loop o) := (h.pin _ _ (.inl ⟨rfl, rfl⟩)).2
        refine ⟨run_endLoop hVl hb, μ, ?_⟩
        have hkept : ∀ (k : Nat) (ob : Obj), w.heap[k]? = some ob → ob.isCells = false → (W2.putObj l (.loop { o with state := .exhausted })).heap[k]? = some ob := fun k ob hk ho => by
          have hlt := (Array.getElem?_eq_some_iff.1 hk).1
          have := hl1.1
          exact (World.putObj_heap_other (by omega)).trans ((h.stp.block k hlt (notCells_own hr0 hk ho)).trans hk)
        have hsz : w.heap.size ≤ W2.heap.size := h.stp.size
        refine h.move rfl rfl (putObj_or hVl rfl) (by simp) (fun b hb => ?_) ?_ (fun b hb => ?_) ?_ (hr0.pin.keep hkept) ⟨h.tm.1, h.tm.2⟩ ⟨h.gh.1, h.gh.2⟩ h.fx
        · rcases hb.1 with h' | h' | h'
          · exact h'.1
          · exact .inr (.inl (Nat.le_trans hr0.stp.size h'))
          · exact .inr (hr0.own b h')
        · have h2 : Stp (Own μ0 S0) w (W2.putObj l (.loop { o with state := .exhausted })) :=
            ⟨h.stp.os, h.stp.tape, h.stp.output, by simpa using hsz, fun k hk hn => (World.putObj_heap_other (by have := hl1.1; omega)).trans (h.stp.block k hk hn)⟩
          exact hr0.stp.trans h2 (fun b hb => (hr0.own b hb).symm)
        · rcases h.own b hb with h' | h'
          · exact .inl (Nat.le_trans hr0.stp.size h')
          · exact hr0.own b h'
        · obtain ⟨ds, d1, d2, d3⟩ := hr0.marks
          have hold : ∀ r ∈ ds, E.w0.heap.size ≤ r ∧ (W2.putObj l (.loop { o with state := .exhausted })).heap[r]? = some (.deferred (some [])) := fun r hr => ⟨(d3 r hr).1, hkept r _ (d3 r hr).2 rfl⟩
          by_cases hmk1 : mk = true
          · have hVd : W2.heap[w.heap.size]? = some (.deferred (some [])) := (h.pin _ _ (.inr ⟨hmk1, rfl, rfl⟩)).2
            have hll := hl1.2 hmk1
            refine ⟨w.heap.size :: ds, by simp [d1, hmk1], ?_, fun r hr => ?_⟩
            · refine List.nodup_cons.2 ⟨fun hm => ?_, d2⟩
              have := (Array.getElem?_eq_some_iff.1 (d3 _ hm).2).1
              omega
            · rcases List.mem_cons.1 hr with rfl | hr
              · exact ⟨hr0.stp.size, (World.putObj_heap_other (fun e => hll e.symm)).trans hVd⟩
              · exact hold r hr
          · exact ⟨ds, by simp [d1, hmk1], d2, hold⟩
      rintro e W2 ⟨⟨v, rfl⟩, ⟨i, hi, h⟩ | ⟨c, σf, hq, h⟩⟩
      · obtain ⟨h1, h2⟩ := back h (by rw [hrec]; simp)
        rw [hrec] at h1
        rw [hrec] at h2
        exact ⟨none, _, h1, _, done i hi, h2⟩
      · obtain ⟨h1, h2⟩ := back h (by rw [hrec]; simp)
        rw [hrec] at h1
        rw [hrec] at h2
        refine ⟨some c, _, h1, ?_⟩
        rcases hq with ⟨rfl, hq⟩ | ⟨id, rfl, hq⟩
        · exact wpIn_ret ⟨σf, hq, h2⟩
        · exact wpIn_exit ⟨σf, hq, h2⟩
    · rintro pre W ⟨i, _, μ, h⟩ b hb
      exact h.stp.block b hb.2.1 hb.2.2
    · rintro pre W W' ⟨i, hi, h⟩ hs
      exact ⟨i, hi, h.later hs⟩
    · rintro W W' ⟨c, σf, hq, h⟩ hs
      exact ⟨c, σf, hq, h.later hs⟩
    · -- a round
      rintro pre x W ⟨i, hi, μ1, h⟩ hpre
      have hVl : W.heap[l]? = some (.loop (rec .ready none)) := (h.pin _ _ (.inl ⟨rfl, rfl⟩)).2
      have hy := run_yield (P := P) (args := #[.int .i64 x]) hVl (by rw [hrec]; rfl)
      rw [hrec] at hy
      refine ⟨fn, _, asg, body, hy, roundIn_of_wpIn hfn ?_⟩
      have hr1 : Rel (RE (rec .ready none)) ⟨T, B i, R i, T ++ G, []⟩ μ1 a0 W := by
        refine h.move rfl rfl (fun _ => .inl rfl) (Nat.le_refl _) (fun b hb => hb.1) h.stp (fun b hb => h.own b hb) (a0m _) h.pin ⟨h.tm.1, h.tm.2⟩ ⟨?_, fun k y u hy hu => ?_⟩ (fun v x hx => by cases hx)
        · show (a.tmps.toList ++ E.gh).length = (T ++ G).length
          rw [List.length_append, List.length_append, hTl, hGa]
        · replace hu : (a.tmps.toList ++ E.gh)[k]? = some u := hu
          replace hy : (T ++ G)[k]? = some y := hy
          by_cases hk : k < T.length
          · rw [List.getElem?_append_left hk] at hy
            rw [List.getElem?_append_left (by rw [hTl]; exact hk), Array.getElem?_toList] at hu
            exact h.tm.2 k y u hy hu
          · rw [List.getElem?_append_right (by omega)] at hy
            rw [List.getElem?_append_right (by rw [hTl]; omega), hTl] at hu
            exact h.gh.2 (k - T.length) y u hy hu
      have hr2 := hr1.put (some p) (x := .d (Go.Aw.I .i64 x)) (v := .int .i64 x) (.c _)
      have ha := aw_sound asg (round pre x i hpre hi) (RE (rec .ready none)) _ W hE0 ⟨μ1, hr2⟩
      have hact : ({ tmps := (#[p].zip #[Value.int .i64 x]).foldl (fun tmps (t, a) => tmps.setIfInBounds t a) a.tmps, defers := [] } : Act) = a0.put (some p) (.int .i64 x) := by
        simp [Act.put, a0]
      rw [hact]
      refine wpIn_mono ha ?_
      rintro e a1 V ⟨σ1, hq, μ2, hr3⟩
      cases e with
      | normal =>
        have hb := run_beginRound (P := P) (hr3.pin _ _ (.inl ⟨rfl, rfl⟩)).2 (by rw [hrec])
        refine ⟨_, hb, ?_⟩
        have hr4 : Rel (RE { rec .ready none with state := .busy }) σ1 μ2 a1 (V.putObj l (.loop { rec .ready none with state := .busy })) :=
          turn hr3 rfl rfl rfl rfl rfl rfl rfl rfl rfl rfl (fun W' hm hk => by
            obtain ⟨ds, d1, d2, d3⟩ := hm
            refine ⟨ds, d1, d2, fun r hr => ⟨(d3 r hr).1, hk r _ (d3 r hr).2 rfl (fun e => ?_)⟩⟩
            have h1 := (d3 r hr).2
            rw [e, (hr3.pin _ _ (.inl ⟨rfl, rfl⟩)).2] at h1
            cases h1) hr3.marks ⟨hr3.tm.1, hr3.tm.2⟩ ⟨hr3.gh.1, hr3.gh.2⟩ hr3.fx
        have hb2 := aw_sound body hq (RE { rec .ready none with state := .busy }) _ _ hE0 ⟨μ2, hr4⟩
        refine wpIn_mono hb2 ?_
        rintro e a3 V3 ⟨σ3, hq3, μ3, hr5⟩
        have hl3 : V3.heap[l]? = some (.loop { rec .ready none with state := .busy }) := (hr5.pin _ _ (.inl ⟨rfl, rfl⟩)).2
        have hlen : σ3.gh.length = T.length + G.length := by
          have := hr5.gh.1
          rw [show (RE { rec .ready none with state := .busy }).gh = a.tmps.toList ++ E.gh from rfl, List.length_append, hTl, hGa] at this
          exact this.symm
        have hfin : ∀ (jump : Option Code), (Instr.endRound l jump).run P V3 = .ok (.bool jump.isNone) (V3.putObj l (.loop (rec (if jump.isNone then .ready else .done) jump))) ∧
            RelS (JE (rec (if jump.isNone then .ready else .done) jump)) (bk σ3) a0 (V3.putObj l (.loop (rec (if jump.isNone then .ready else .done) jump))) := fun jump => by
          refine ⟨?_, μ3, ?_⟩
          · have := run_endRound (P := P) jump hl3
            rw [hrec] at this ⊢
            exact this
          · rw [hbk σ3 hlen]
            refine turn hr5 rfl rfl rfl rfl rfl rfl rfl rfl rfl rfl (fun W' _ _ => a0m _) (a0m _) ⟨?_, fun k y u hy hu => ?_⟩ ⟨?_, fun k y u hy hu => ?_⟩ (fun v x hx => by cases hx)
            · show a.tmps.size = (σ3.gh.take T.length).length
              rw [List.length_take, hTa]; omega
            · have hk : k < T.length := by
                have := (List.getElem?_eq_some_iff.1 hy).1
                simp at this; omega
              rw [List.getElem?_take_of_lt hk] at hy
              exact hr5.gh.2 k y u hy (by show (a.tmps.toList ++ E.gh)[k]? = some u; rw [List.getElem?_append_left (by rw [hTl]; exact hk), Array.getElem?_toList]; exact hu)
            · show E.gh.length = (σ3.gh.drop T.length).length
              rw [List.length_drop]; omega
            · rw [List.getElem?_drop] at hy
              refine hr5.gh.2 (T.length + k) y u hy ?_
              show (a.tmps.toList ++ E.gh)[T.length + k]? = some u
              rw [List.getElem?_append_right (by rw [hTl]; omega), hTl, Nat.add_sub_cancel_left]
              exact hu
        cases e with
        | normal =>
          obtain ⟨j, hj, hw⟩ := hq3
          obtain ⟨h1, h2⟩ := hfin none
          exact ⟨_, _, h1, .inl ⟨rfl, j, hj, hw _ _ _ h2⟩⟩
        | ret =>
          obtain ⟨h1, h2⟩ := hfin (some .ret)
          exact ⟨_, _, h1, .inr ⟨rfl, .ret, _, .inl ⟨rfl, hq3⟩, h2⟩⟩
        | exit id =>
          obtain ⟨h1, h2⟩ := hfin (some (.exit id))
          exact ⟨_, _, h1, .inr ⟨rfl, .exit id, _, .inr ⟨id, rfl, hq3⟩, h2⟩⟩
        | _ => exact hq3.elim
      | _ => exact hq.elim

/-- **A range over numbers that a function yields.** -/
theorem AW_range {ι : Type} (T : List V) (B : ι → List V) (R : ι → List (Option Row)) (I : List Int → ι → Prop) {f : Operand} {p : Tmp} {asg body : Code} {Q : Exit → St → Prop} {gf : FuncId} {caps : List D} {xs : List Int} (i0 : ι)
    (hT : T ≠ []) (hit : IterA P gf caps xs) (hf : St.eval ⟨T, B i0, R i0, [], []⟩ f = .d (.f (.func gf) caps)) (hI : I [] i0)
    (round : ∀ pre x i, (pre ++ [x]) <+: xs → I pre i → aw P asg (Qn fun σ1 => aw P body (Qrd Q fun σ' => ∃ j, I (pre ++ [x]) j ∧ Wkn σ' ⟨T, B j, R j, [], []⟩) σ1) ⟨T.set p (.d (Go.Aw.I .i64 x)), B i, R i, T, []⟩)
    (done : ∀ i, I xs i → Q .normal ⟨T, B i, R i, [], []⟩) : AW P (.rangeFunc f #[p] asg body) Q ⟨T, B i0, R i0, [], []⟩ := by
  refine AW_rangeX T [] B R I i0 St.back (fun σ h => ?_) hit hf hI (fun pre x i h1 h2 => ?_) done
  · unfold St.back
    rw [List.take_of_length_le (by simpa using Nat.le_of_eq h), List.drop_of_length_le (by simpa using Nat.le_of_eq h)]
  · have e : ∀ K, QrdB St.back Q K = Qrd Q K := fun K => by
      funext e σ
      cases e <;> rfl
    simp only [e, List.append_nil]
    exact round pre x i h1 h2
end Go.Aw

namespace Go.Aw
open Go.RowKit
variable {P : Program}

/-- A row of its own, handed out. -/
def rowK (σ : St) (x : V) (R : Nat → List D → Prop) : Prop :=
  match x with
  | .nl => ∃ sz, 0 < sz ∧ R sz []
  | .o r off len => off = 0 ∧ rwK σ r fun row => 0 < row.sz ∧ R row.sz (row.xs.take len)
  | _ => False

def Qrow (t : Tmp) (R : Nat → List D → Prop) : Exit → St → Prop
  | .normal, σ => evK (σ.eval (.tmp t)) (.mk : Hid fun v => rowK σ v R)
  | .ret, σ => evK (σ.eval (.tmp t)) (.mk : Hid fun v => rowK σ v R)
  | _, _ => False

theorem FnR.of {f : FuncId} {fn : Func} {c : Code} {ds : List D} {t : Tmp} {n : Nat} {R : Nat → List D → Prop} (hf : P.funcs[f]? = some fn) (hb : fn.body = some c) (hname : (fn.name == "runtime.NumGoroutine") = false) (hres : fn.results = #[.tmp t]) (hn : fn.ntmps = n)
    (h : aw P c (Qrow t R) { tm := ds.map .d ++ List.replicate (n - ds.length) .j, bx := [], rw := [] }) : FnA P f ds (fun r => ∃ sz xs, r = .row sz xs ∧ R sz xs) := by
  subst hn
  refine ⟨fun args w => Go.Proofs.enters_of hf hname hb args w, fun w N vs hg hN ha => ?_⟩
  refine callsIn_of_wp_marks hf hb trivial ?_ rfl
  refine wpIn_mono (aw_sound c h { w0 := w, N := N, Ow := fun _ => False } _ w ⟨hg, fun _ _ h => h⟩ (start_rel hN ha)) ?_
  rintro e a w' ⟨σ, hq, μ, hr⟩
  have fin : rowK σ (σ.eval (.tmp t)) R → LeavesInM Fence.wide 0 P fn a.tmps (fun e w' => ∃ r v, (∃ sz xs, r = Res.row sz xs ∧ R sz xs) ∧ e = .returned v ∧ Below w.heap.size w w' ∧ ResOK w.heap.size (fun b => (N b ∨ w.heap.size ≤ b) ∧ b < w'.heap.size) w' r v) a.defers .returning w' := by
    intro hq
    obtain ⟨ms, m1, m2, m3⟩ := hr.marks
    rw [m1]
    refine leaves_marks ms w' m2 (fun r hr' => (m3 r hr').2) (fun w'' hs => ?_)
    have hr2 := hr.shut m3 hs (fun _ _ h => h)
    have hv := hr2.eval (.tmp t)
    have hrun : (results fn a.tmps).run P w'' = .ok (a.tmps.getD t undef) w'' := by simp [results, hres]
    have hev : ({ a with defers := [] } : Act).eval (.tmp t) = a.tmps.getD t undef := rfl
    rw [hev] at hv
    generalize σ.eval (.tmp t) = x at hq hv
    unfold rowK at hq
    split at hq
    · obtain ⟨sz, h0, hR⟩ := hq
      have hv : a.tmps.getD t undef = .slice none 0 0 := hv
      exact ⟨_, hrun, .row sz [], _, ⟨sz, [], rfl, hR⟩, rfl, hr2.stp.to_below, h0, by simp, .inl ⟨hv, rfl⟩⟩
    · rename_i r off len
      obtain ⟨rfl, hq⟩ := hq
      obtain ⟨row, hrow, h0, hR⟩ := rwK_inv hq
      refine ⟨_, hrun, .row row.sz (row.xs.take len), _, ⟨_, _, rfl, hR⟩, rfl, hr2.stp.to_below, h0, ?_⟩
      obtain ⟨_, hv⟩ := hv
      obtain ⟨hle, hv⟩ := hv row hrow
      have hlen : (row.xs.take len).length = len := by simp; omega
      have hR := hr2.mem.row r row hrow
      rcases hv with ⟨hm, hv2, hl0⟩ | ⟨b, sh, A, cap, hm, hv2, hcap, hA, C0, et0, fr0, hc0, hroom⟩
      · exact ⟨by simp [hl0], .inl ⟨hv2, by simp [hl0]⟩⟩
      · rw [hm] at hR
        obtain ⟨k0, k1, C, et, k2, k3, k4⟩ := hR
        obtain rfl : C0 = C := by rw [k2] at hc0; cases hc0; rfl
        refine ⟨fun x hx => k1 x (List.mem_of_mem_take hx), .inr ⟨b, sh, cap, ?_, by rw [hlen]; exact hcap, ?_, C0, et, k2, by simpa using hroom, fun i k x y u hx hy hu => ?_⟩⟩
        · rw [hv2, hA (.inr rfl), hlen]; simp
        · exact (hr2.own b (.inr ⟨r, row, sh, hrow, hm⟩)).elim id (fun h => h.elim)
        · rw [List.getElem?_take] at hx
          split at hx
          · exact (k4 i k x y u hx hy hu).mono (fun b' hb' => ⟨⟨⟨hb'.1.imp id (fun h => h.elim id (fun h => h.elim)), hb'.2.1⟩, fun e => hb'.2.2 (e ▸ .inr ⟨r, row, sh, hrow, hm⟩)⟩, .inl rfl⟩)
          · cases hx
    · exact hq.elim
  cases e with
  | normal => exact fin hq
  | ret => exact fin hq
  | _ => exact hq.elim

/-- Such a row as data. -/
theorem FnA.froze {f : FuncId} {ds : List D} {R : Nat → List D → Prop} (h : FnA P f ds (fun r => ∃ sz xs, r = .row sz xs ∧ R sz xs)) : FnA P f ds (fun r => ∃ xs, r = .d (.l xs) ∧ ∃ sz, R sz xs) := by
  refine ⟨h.1, fun w N vs hg h1 h2 => CallsIn.mono (h.2 w N vs hg h1 h2) ?_⟩
  rintro e w' ⟨_, v, ⟨sz, xs, rfl, hR⟩, rfl, hb, h0, hsz, hv⟩
  refine ⟨.d (.l xs), v, ⟨xs, rfl, sz, hR⟩, rfl, hb, ?_⟩
  rcases hv with ⟨rfl, rfl⟩ | ⟨b, sh, cap, rfl, hcap, hB, C, et, hC, hroom, hd⟩
  · exact .nl none 0
  · have hlt := (Array.getElem?_eq_some_iff.1 hC).1
    have hin : ∀ (i k : Nat) (x y : D), xs[i]? = some x → x.cells[k]? = some y → sh + i * sz + k < C.size := fun i k x y hx hy => by
      have h3 : i < xs.length := (List.getElem?_eq_some_iff.1 hx).1
      have h4 : k < sz := by rw [← hsz x (List.mem_of_getElem? hx)]; exact (List.getElem?_eq_some_iff.1 hy).1
      have : (i + 1) * sz ≤ cap * sz := Nat.mul_le_mul_right _ (by omega)
      rw [Nat.succ_mul] at this
      omega
    refine .l xs ⟨b, sh, none⟩ cap sz (fun i k => (C[sh + i * sz + k]?).getD undef) hcap ⟨.inr hB, hlt⟩ (fun i x hx => hsz x (List.mem_of_getElem? hx)) (fun i k x y hx hy => ?_) (fun i k x y hx hy => ?_)
    · rw [addr_add]
      have := hin i k x y hx hy
      simp [World.cell?, hC, ← Nat.add_assoc, this]
    · have h3 := hin i k x y hx hy
      refine (hd i k x y _ hx hy ?_).mono (fun b' hb' => ⟨hb'.1, .inl rfl⟩)
      simp [h3]

/-- A row for sure. -/
def FnR (P : Program) (f : FuncId) (ds : List D) (sz : Nat) (xs : List D) : Prop := FnA P f ds (fun r => r = .row sz xs)
theorem FnR.go {f : FuncId} {fn : Func} {c : Code} {ds : List D} {t : Tmp} {n sz : Nat} {xs : List D} (hf : P.funcs[f]? = some fn) (hb : fn.body = some c) (hname : (fn.name == "runtime.NumGoroutine") = false) (hres : fn.results = #[.tmp t]) (hn : fn.ntmps = n)
    (h : aw P c (Qrow t fun s ys => s = sz ∧ ys = xs) { tm := ds.map .d ++ List.replicate (n - ds.length) .j, bx := [], rw := [] }) : FnR P f ds sz xs :=
  (FnR.of hf hb hname hres hn h).mono fun r ⟨s, ys, h1, h2, h3⟩ => by rw [h1, h2, h3]
theorem FnR.data {f : FuncId} {ds : List D} {sz : Nat} {xs : List D} (h : FnR P f ds sz xs) : FnD P f ds (.l xs) :=
  (FnA.froze (R := fun s ys => s = sz ∧ ys = xs) (h.mono fun r e => ⟨sz, xs, e, rfl, rfl⟩)).mono fun r ⟨ys, h1, s, h2, h3⟩ => by rw [h1, h3]

theorem CallH.eqR {Pre : Prop} {f : FuncId} {ds : List D} {sz : Nat} {xs : List D} (h : Pre → FnR P f ds sz xs) (pure : Bool) (σ : St) (dst : Option Tmp) (K : St → Prop) :
    CallH P f ds pure σ dst (.mk : Hid K) = OrH (Pre ∧ (pure || Res.flat (.row sz xs)) = true ∧ evK ((σ.addRow ⟨sz, xs⟩).put dst (.o σ.rw.length 0 xs.length)) (.mk : Hid K)) (.mk : Hid (CallH P f ds pure σ dst (.mk : Hid K))) :=
  OrH.eq fun ⟨h0, h1, h2⟩ => ⟨_, h h0, by rintro r rfl; exact ⟨h1, h2⟩⟩

theorem Qrow_r (t : Tmp) (R : Nat → List D → Prop) (σ : St) : Qrow t R .ret σ = evK (σ.eval (.tmp t)) (.mk : Hid fun v => rowK σ v R) := rfl
theorem rowK_o (σ : St) (r off len : Nat) (R : Nat → List D → Prop) : rowK σ (.o r off len) R = (off = 0 ∧ rwK σ r fun row => 0 < row.sz ∧ R row.sz (row.xs.take len)) := rfl
theorem Qn_n (K : St → Prop) (σ : St) : Qn K .normal σ = K σ := rfl
theorem Qrd_n (Q : Exit → St → Prop) (K : St → Prop) (σ : St) : Qrd Q K .normal σ = evK σ.back (.mk : Hid K) := rfl
theorem back_mk (tm bx : List V) (rw : List (Option Row)) (gh : List V) (fx : List (Value × V)) : St.back ⟨tm, bx, rw, gh, fx⟩ = ⟨gh, bx, rw, [], []⟩ := rfl
def WknH (σ σ' : St) : Prop := Wkn σ σ'
end Go.Aw

namespace Go.Aw
open Go.RowKit
variable {P : Program}

/-- What lies frozen. -/
def frzK (q : List (Option Nat)) (rw : List (Option Row)) (x : V) (d : D) : Prop :=
  match x with
  | .d d' => d' = d
  | .nl => d = .l []
  | .o r off len => (some r ∉ q) ∧ match rw.getD r none with
    | some row => d = .l ((row.xs.drop off).take len)
    | none => False
  | _ => False
/-- It is nil. -/
def nlK (x : V) : Prop :=
  match x with
  | .nl => True
  | .d (.c (.slice none 0 0)) => True
  | _ => False
def oK (q : List (Option Nat)) (i off len : Nat) (x : V) : Prop :=
  match q[i]? with
  | some (some r) => x = .o r off len
  | some none => nlK x ∧ off = 0 ∧ len = 0
  | none => False
def eK (q : List (Option Nat)) (i idx s : Nat) (x : V) : Prop :=
  match q[i]? with
  | some (some r) => x = .e r idx s
  | _ => False
def pK (p : List Nat) (b s : Nat) (x : V) : Prop :=
  match p[b]? with
  | some b0 => x = .p b0 s
  | none => False
def WkV (p : List Nat) (q : List (Option Nat)) (rw : List (Option Row)) (x y : V) : Prop :=
  match y with
  | .j => True
  | .d d => frzK q rw x d
  | .nl => nlK x
  | .o i off len => oK q i off len x
  | .e i idx s => eK q i idx s x
  | .p b s => pK p b s x
  | .fp fn ps => x = .fp fn (ps.map fun b => p.getD b 0) ∧ ∀ b ∈ ps, b < p.length
def WkL (p : List Nat) (q : List (Option Nat)) (rw : List (Option Row)) : List V → List V → Prop
  | [], [] => True
  | x :: xs, y :: ys => WkV p q rw x y ∧ WkL p q rw xs ys
  | _, _ => False
def WkB (p : List Nat) (q : List (Option Nat)) (rw : List (Option Row)) (bx : List V) : List Nat → List V → Prop
  | [], [] => True
  | b0 :: ps, y :: ys => (b0 < bx.length ∧ WkV p q rw (bx.getD b0 .j) y ∧ y.cells.length = (bx.getD b0 .j).cells.length) ∧ WkB p q rw bx ps ys
  | _, _ => False
def WkR (rw : List (Option Row)) : List (Option Nat) → List (Option Row) → Prop
  | [], [] => True
  | r0 :: qs, y :: ys => (match y with
    | none => True
    | some row' => match r0 with
      | some r => rw.getD r none = some row'
      | none => row'.xs = []) ∧ WkR rw qs ys
  | _, _ => False
def injO : List (Option Nat) → Bool
  | [] => true
  | none :: l => injO l
  | some r :: l => !(l.contains (some r)) && injO l
def injN : List Nat → Bool
  | [] => true
  | r :: l => !(l.contains r) && injN l
structure Wk (p : List Nat) (q : List (Option Nat)) (σ σ' : St) : Prop where
  ip : injN p = true
  iq : injO q = true
  tm : WkL p q σ.rw σ.tm σ'.tm
  gh : WkL p q σ.rw σ.gh σ'.gh
  bx : WkB p q σ.rw σ.bx p σ'.bx
  rw : WkR σ.rw q σ'.rw
  fx : σ'.fx = []

theorem injN_inv : ∀ {l : List Nat}, injN l = true → ∀ (i j r : Nat), l[i]? = some r → l[j]? = some r → i = j := by
  intro l
  induction l with
  | nil => intro _ i j r h; simp at h
  | cons x l ih =>
    intro h i j r hi hj
    simp only [injN, Bool.and_eq_true, Bool.not_eq_true', List.contains_iff_mem, ← Bool.not_eq_true] at h
    cases i with
    | zero => cases j with
      | zero => rfl
      | succ j => simp at hi hj; subst hi; exact absurd (List.mem_of_getElem? hj) h.1
    | succ i => cases j with
      | zero => simp at hi hj; subst hj; exact absurd (List.mem_of_getElem? hi) h.1
      | succ j => simp at hi hj; rw [ih h.2 i j r hi hj]
theorem injO_inv : ∀ {l : List (Option Nat)}, injO l = true → ∀ (i j r : Nat), l[i]? = some (some r) → l[j]? = some (some r) → i = j := by
  intro l
  induction l with
  | nil => intro _ i j r h; simp at h
  | cons x l ih =>
    intro h i j r hi hj
    have ht : injO l = true := by
      cases x with
      | none => exact h
      | some x => simp only [injO, Bool.and_eq_true] at h; exact h.2
    have hx : ∀ r, x = some r → some r ∉ l := fun r e => by
      subst e
      simp only [injO, Bool.and_eq_true, Bool.not_eq_true', List.contains_iff_mem, ← Bool.not_eq_true] at h
      exact h.1
    cases i with
    | zero => cases j with
      | zero => rfl
      | succ j => simp at hi hj; exact absurd (List.mem_of_getElem? hj) (hx r hi)
    | succ i => cases j with
      | zero => simp at hi hj; exact absurd (List.mem_of_getElem? hi) (hx r hj)
      | succ j => simp at hi hj; rw [ih ht i j r hi hj]
theorem WkL.inv {p : List Nat} {q : List (Option Nat)} {rw : List (Option Row)} : ∀ {xs ys : List V}, WkL p q rw xs ys → xs.length = ys.length ∧ ∀ (k : Nat) (y : V), ys[k]? = some y → ∃ x, xs[k]? = some x ∧ WkV p q rw x y := by
  intro xs
  induction xs with
  | nil => intro ys h; cases ys with
    | nil => exact ⟨rfl, fun k y hy => by simp at hy⟩
    | cons y ys => exact h.elim
  | cons x xs ih => intro ys h; cases ys with
    | nil => exact h.elim
    | cons y ys =>
      obtain ⟨h1, h2⟩ := h
      obtain ⟨g1, g2⟩ := ih h2
      refine ⟨by simp [g1], fun k z hz => ?_⟩
      cases k with
      | zero => simp at hz; subst hz; exact ⟨x, rfl, h1⟩
      | succ k => simpa using g2 k z (by simpa using hz)
theorem WkB.inv {p0 : List Nat} {q : List (Option Nat)} {rw : List (Option Row)} {bx : List V} : ∀ {p : List Nat} {ys : List V}, WkB p0 q rw bx p ys → p.length = ys.length ∧ ∀ (k : Nat) (y : V), ys[k]? = some y → ∃ b0 x, p[k]? = some b0 ∧ bx[b0]? = some x ∧ WkV p0 q rw x y ∧ y.cells.length = x.cells.length := by
  intro p
  induction p with
  | nil => intro ys h; cases ys with
    | nil => exact ⟨rfl, fun k y hy => by simp at hy⟩
    | cons y ys => exact h.elim
  | cons b0 p ih => intro ys h; cases ys with
    | nil => exact h.elim
    | cons y ys =>
      obtain ⟨⟨h0, h1, h1'⟩, h2⟩ := h
      obtain ⟨g1, g2⟩ := ih h2
      refine ⟨by simp [g1], fun k z hz => ?_⟩
      cases k with
      | zero =>
        simp at hz; subst hz
        have e : bx.getD b0 .j = bx[b0] := by rw [List.getD_eq_getElem?_getD, List.getElem?_eq_getElem h0]; rfl
        rw [e] at h1 h1'
        exact ⟨b0, _, rfl, List.getElem?_eq_getElem h0, h1, h1'⟩
      | succ k => simpa using g2 k z (by simpa using hz)
theorem getD_some {rw : List (Option Row)} {r : Nat} {row : Row} (h : rw.getD r none = some row) : rw[r]? = some (some row) := by
  rw [List.getD_eq_getElem?_getD] at h
  cases hx : rw[r]? with
  | none => rw [hx] at h; cases h
  | some x => rw [hx] at h; simp at h; rw [h]
theorem WkR.inv {rw : List (Option Row)} : ∀ {q : List (Option Nat)} {ys : List (Option Row)}, WkR rw q ys → q.length = ys.length ∧ ∀ (k : Nat) (row' : Row), ys[k]? = some (some row') → (∃ r, q[k]? = some (some r) ∧ rw[r]? = some (some row')) ∨ (q[k]? = some none ∧ row'.xs = []) := by
  intro q
  induction q with
  | nil => intro ys h; cases ys with
    | nil => exact ⟨rfl, fun k y hy => by simp at hy⟩
    | cons y ys => exact h.elim
  | cons r0 q ih => intro ys h; cases ys with
    | nil => exact h.elim
    | cons y ys =>
      obtain ⟨h1, h2⟩ := h
      obtain ⟨g1, g2⟩ := ih h2
      refine ⟨by simp [g1], fun k z hz => ?_⟩
      cases k with
      | zero =>
        simp at hz; subst hz
        cases r0 with
        | none => exact .inr ⟨rfl, h1⟩
        | some r => exact .inl ⟨r, rfl, getD_some h1⟩
      | succ k => simpa using g2 k z (by simpa using hz)

theorem WkV.cells {p : List Nat} {q : List (Option Nat)} {rw : List (Option Row)} {x y : V} (h : WkV p q rw x y) (hl : y.cells.length = x.cells.length) {k : Nat} {z : V} (hz : y.cells[k]? = some z) : ∃ z0, x.cells[k]? = some z0 ∧ WkV p q rw z0 z := by
  have single : ∀ {z : V}, [y][k]? = some z → y.cells = [y] → ∃ z0, x.cells[k]? = some z0 ∧ (x.cells = [x] → z0 = x ∧ z = y) := fun {z} hz hy => by
    cases k with
    | zero =>
      simp at hz
      rw [hy] at hl
      have : 0 < x.cells.length := by rw [← hl]; simp
      exact ⟨x.cells[0], List.getElem?_eq_getElem this, fun e => ⟨by simp [e], hz.symm⟩⟩
    | succ k => simp at hz
  cases y with
  | j =>
    obtain ⟨z0, h1, _⟩ := single hz rfl
    cases k with
    | zero => simp [V.cells] at hz; subst hz; exact ⟨z0, h1, trivial⟩
    | succ k => simp [V.cells] at hz
  | d d =>
    have h' : frzK q rw x d := h
    cases x with
    | d d' =>
      obtain rfl : d' = d := h'
      refine ⟨z, hz, ?_⟩
      cases d' <;> simp [V.cells] at hz
      case s xs => obtain ⟨a, _, rfl⟩ := hz; exact rfl
      all_goals (cases k <;> simp at hz; subst hz; exact rfl)
    | nl =>
      obtain rfl : d = .l [] := h'
      obtain ⟨z0, h1, h2⟩ := single hz rfl
      obtain ⟨rfl, rfl⟩ := h2 rfl
      exact ⟨_, h1, h⟩
    | o r off len =>
      have : ∃ ys, d = .l ys := by
        obtain ⟨_, h2⟩ := h'
        split at h2
        · exact ⟨_, h2⟩
        · exact h2.elim
      obtain ⟨ys, rfl⟩ := this
      obtain ⟨z0, h1, h2⟩ := single hz rfl
      obtain ⟨rfl, rfl⟩ := h2 rfl
      exact ⟨_, h1, h⟩
    | _ => exact h'.elim
  | _ =>
    obtain ⟨z0, h1, h2⟩ := single hz rfl
    have hx : x.cells = [x] := by
      cases x with
      | d d =>
        first
          | (unfold WkV oK at h; dsimp only at h; split at h <;> first | (simp at h; done) | (exact h.elim) | (cases d <;> first | rfl | exact h.1.elim))
          | (exfalso; unfold WkV eK at h; dsimp only at h; split at h <;> simp at h; done)
          | (exfalso; unfold WkV pK at h; dsimp only at h; split at h <;> simp at h; done)
          | (exfalso; have := h.1; cases this; done)
          | (exfalso; cases h; done)
          | (cases d <;> first | rfl | exact h.elim)
      | _ => rfl
    obtain ⟨rfl, rfl⟩ := h2 hx
    exact ⟨_, h1, h⟩
end Go.Aw

namespace Go.Aw
open Go.RowKit
variable {P : Program}

theorem row_lN {E : Env} {σ : St} {μ : Map} {a : Act} {w : World} (hr : Rel E σ μ a w) {N : Nat → Prop} {r off len : Nat} {row : Row} {v : Value} (hrow : σ.rw[r]? = some (some row)) (hN : ∀ b, Fz E w μ σ b → N b) (hb : ∀ b sh, μ.r r = some (b, sh) → N b)
    (hv : RelV E w μ σ (.o r off len) v) : RelD w N (.l ((row.xs.drop off).take len)) v := by
  obtain ⟨_, hv⟩ := hv
  obtain ⟨hle, hv⟩ := hv row hrow
  have hlen : ((row.xs.drop off).take len).length = len := by simp; omega
  rcases hv with ⟨_, rfl, rfl⟩ | ⟨b, sh, A, cap, hm, rfl, hcap, hA, hroom⟩
  · have : (row.xs.drop off).take 0 = [] := rfl
    rw [this]
    exact .nl none 0
  · by_cases h0 : len = 0
    · subst h0
      have : (row.xs.drop off).take 0 = [] := rfl
      rw [this]
      exact .nl A cap
    · obtain rfl := hA (.inl (by omega))
      have hR := hr.mem.row r row hrow
      rw [hm] at hR
      have key : ∀ (i k : Nat) (x y : D), ((row.xs.drop off).take len)[i]? = some x → x.cells[k]? = some y → ∃ u, w.cell? ((⟨b, sh + off * row.sz, none⟩ : Addr).add (i * row.sz + k)) = some u ∧ RelD w N y u := fun i k x y hx hy => by
        have hx2 : row.xs[off + i]? = some x := by
          rw [List.getElem?_take] at hx
          split at hx
          · rwa [List.getElem?_drop] at hx
          · cases hx
        obtain ⟨u, g1, g2⟩ := row_cell hr hrow hm hx2 hy
        refine ⟨u, ?_, g2.mono (fun b hb => ⟨hN b hb, .inl rfl⟩)⟩
        rw [addr_add, ← g1]
        congr 2
        rw [Nat.add_mul]; omega
      have hf : ∀ i k, ∃ u, ∀ x y, ((row.xs.drop off).take len)[i]? = some x → x.cells[k]? = some y → w.cell? ((⟨b, sh + off * row.sz, none⟩ : Addr).add (i * row.sz + k)) = some u ∧ RelD w N y u := fun i k => by
        cases hx : ((row.xs.drop off).take len)[i]? with
        | none => exact ⟨undef, fun x y hx' => by cases hx'⟩
        | some x =>
          cases hy : x.cells[k]? with
          | none => exact ⟨undef, fun x' y hx' hy' => by cases hx'; rw [hy] at hy'; cases hy'⟩
          | some y =>
            obtain ⟨u, h1⟩ := key i k x y hx hy
            exact ⟨u, fun x' y' hx' hy' => by cases hx'; rw [hy] at hy'; cases hy'; exact h1⟩
      have : RelD w N (.l ((row.xs.drop off).take len)) (.slice (some ⟨b, sh + off * row.sz, none⟩) ((row.xs.drop off).take len).length cap) := by
        refine .l _ _ cap row.sz (fun i k => Classical.choose (hf i k)) (by omega) (hb b sh hm) (fun i x hx => hR.2.1 x ?_) (fun i k x y hx hy => (Classical.choose_spec (hf i k) x y hx hy).1) (fun i k x y hx hy => (Classical.choose_spec (hf i k) x y hx hy).2)
        exact List.mem_of_mem_drop (List.mem_of_mem_take (List.mem_of_getElem? hx))
      rwa [hlen] at this

theorem Wk.rel {p : List Nat} {q : List (Option Nat)} {E : Env} {σ σ' : St} {μ : Map} {a : Act} {w : World} (hw : Wk p q σ σ') (h : Rel E σ μ a w) :
    ∃ μ', Rel E σ' μ' a w := by
  obtain ⟨l1, l2⟩ := hw.tm.inv
  obtain ⟨g1, g2⟩ := hw.gh.inv
  obtain ⟨b1, b2⟩ := hw.bx.inv
  obtain ⟨r1, r2⟩ := hw.rw.inv
  let μ' : Map := ⟨fun i => μ.b (p.getD i 0), fun i => match q[i]? with | some (some r) => μ.r r | _ => none⟩
  have hpi : ∀ {i b0 : Nat}, p[i]? = some b0 → μ'.b i = μ.b b0 := fun {i b0} e => by
    show μ.b (p.getD i 0) = μ.b b0
    rw [List.getD_eq_getElem?_getD, e]; rfl
  have hqi : ∀ {i r : Nat}, q[i]? = some (some r) → μ'.r i = μ.r r := fun {i r} e => by
    show (match q[i]? with | some (some r) => μ.r r | _ => none) = μ.r r
    rw [e]
  have hqn : ∀ {i : Nat}, q[i]? = some none → μ'.r i = none := fun {i} e => by
    show (match q[i]? with | some (some r) => μ.r r | _ => none) = none
    rw [e]
  have hpx : ∀ {i : Nat}, i < σ'.bx.length → ∃ b0, p[i]? = some b0 ∧ b0 < σ.bx.length := fun {i} hi => by
    obtain ⟨b0, x, e1, e2, _⟩ := b2 i _ (List.getElem?_eq_getElem hi)
    exact ⟨b0, e1, (List.getElem?_eq_some_iff.1 e2).1⟩
  have hrx : ∀ {i : Nat} {row' : Row} {b sh : Nat}, σ'.rw[i]? = some (some row') → μ'.r i = some (b, sh) → ∃ r, q[i]? = some (some r) ∧ σ.rw[r]? = some (some row') ∧ μ.r r = some (b, sh) := fun {i row' b sh} e hm => by
    rcases r2 i row' e with ⟨r, e1, e2⟩ | ⟨e1, _⟩
    · exact ⟨r, e1, e2, by rw [← hqi e1]; exact hm⟩
    · rw [hqn e1] at hm; cases hm
  have ho : ∀ b, Own μ' σ' b → Own μ σ b := by
    rintro b (⟨i, hi, rfl⟩ | ⟨r, row, sh, hr, hm⟩)
    · obtain ⟨b0, e1, e2⟩ := hpx hi
      exact .inl ⟨b0, e2, (hpi e1).symm⟩
    · obtain ⟨r0, _, e2, e3⟩ := hrx hr hm
      exact .inr ⟨r0, row, sh, e2, e3⟩
  have hfz : ∀ b, Fz E w μ σ b → Fz E w μ' σ' b := fun b hb => ⟨hb.1, hb.2.1, fun h' => hb.2.2 (ho b h')⟩
  have hD : ∀ {d : D} {u : Value}, RelD w (Fz E w μ σ) d u → RelD w (Fz E w μ' σ') d u := fun hd => hd.mono fun b hb => ⟨hfz b hb, .inl rfl⟩
  have hV : ∀ {x y : V} {u : Value}, WkV p q σ.rw x y → RelV E w μ σ x u → RelV E w μ' σ' y u := by
    intro x y u hxy hx
    cases y with
    | j => trivial
    | nl =>
      have hxy : nlK x := hxy
      unfold nlK at hxy
      split at hxy
      · exact hx
      · exact rel_c hx
      · exact hxy.elim
    | d d =>
      have hxy : frzK q σ.rw x d := hxy
      cases x with
      | d d' => obtain rfl : d' = d := hxy; exact hD hx
      | nl =>
        obtain rfl : d = .l [] := hxy
        obtain rfl : u = .slice none 0 0 := hx
        exact .nl none 0
      | o r off len =>
        obtain ⟨hnot, h2⟩ := hxy
        split at h2
        · rename_i row hrow
          subst h2
          have hrow := getD_some hrow
          refine row_lN h hrow hfz (fun b sh hm => ⟨.inr (h.own b (.inr ⟨r, row, sh, hrow, hm⟩)), h.mem.own_lt (.inr ⟨r, row, sh, hrow, hm⟩), ?_⟩) hx
          rintro (⟨i, hi, e⟩ | ⟨i, row', sh', hr', hm'⟩)
          · obtain ⟨b0, e1, e2⟩ := hpx hi
            rw [hpi e1] at e
            exact h.mem.br b0 r row sh e2 hrow (by rw [hm, e])
          · obtain ⟨r0, e1, e2, e3⟩ := hrx hr' hm'
            obtain rfl := h.mem.rr r r0 row row' b sh sh' hrow e2 hm e3
            exact hnot (List.mem_of_getElem? e1)
        · exact h2.elim
      | _ => exact hxy.elim
    | o i off len =>
      have hxy : oK q i off len x := hxy
      unfold oK at hxy
      split at hxy
      · rename_i r hq
        subst hxy
        obtain ⟨⟨h1, h2⟩, h3⟩ := hx
        refine ⟨⟨by rw [← r1]; exact (List.getElem?_eq_some_iff.1 hq).1, h2⟩, fun row' hr' => ?_⟩
        rcases r2 i row' hr' with ⟨r', e1, e2⟩ | ⟨e1, _⟩
        · rw [hq] at e1
          cases e1
          obtain ⟨h4, h5⟩ := h3 row' e2
          rw [hqi hq]
          exact ⟨h4, h5⟩
        · rw [hq] at e1; cases e1
      · rename_i hq
        obtain ⟨hn, rfl, rfl⟩ := hxy
        obtain rfl : u = .slice none 0 0 := by
          unfold nlK at hn
          split at hn
          · exact hx
          · exact rel_c hx
          · exact hn.elim
        exact ⟨⟨by rw [← r1]; exact (List.getElem?_eq_some_iff.1 hq).1, _, _, _, rfl⟩, fun row' hr' => ⟨by simp, .inl ⟨hqn hq, rfl, rfl⟩⟩⟩
      · exact hxy.elim
    | e i idx s =>
      have hxy : eK q i idx s x := hxy
      unfold eK at hxy
      split at hxy
      · rename_i r hq
        subst hxy
        obtain ⟨⟨h1, h2⟩, h3⟩ := hx
        refine ⟨⟨by rw [← r1]; exact (List.getElem?_eq_some_iff.1 hq).1, h2⟩, fun row' hr' => ?_⟩
        rcases r2 i row' hr' with ⟨r', e1, e2⟩ | ⟨e1, _⟩
        · rw [hq] at e1
          cases e1
          obtain ⟨h4, h5⟩ := h3 row' e2
          rw [hqi hq]
          exact ⟨h4, h5⟩
        · rw [hq] at e1; cases e1
      · exact hxy.elim
    | p b s =>
      have hxy : pK p b s x := hxy
      unfold pK at hxy
      split at hxy
      · rename_i b0 hp
        subst hxy
        exact ⟨by rw [← b1]; exact (List.getElem?_eq_some_iff.1 hp).1, by rw [hpi hp]; exact hx.2⟩
      · exact hxy.elim
    | fp fn ps =>
      obtain ⟨rfl, hps⟩ := hxy
      obtain ⟨us, h1, h2, h3⟩ := hx
      refine ⟨us, h1, by simpa using h2, fun k b hk => ?_⟩
      obtain ⟨u', h4, h5⟩ := h3 k (p.getD b 0) (by rw [List.getElem?_map, hk]; rfl)
      have hb := hps b (List.mem_of_getElem? hk)
      exact ⟨u', h4, by rw [← b1]; exact hb, h5.2⟩
  refine ⟨μ', h.stp, fun b hb => h.own b (ho b hb), ⟨fun i k hi hk e => ?_, fun i r row sh hi hr e => ?_, fun r r' row row' b sh sh' hr hr' e e' => ?_, fun i y hy => ?_, fun i row' hr' => ?_⟩, ⟨by rw [h.tm.1]; exact l1, fun k y u hy hu => ?_⟩, h.marks, ⟨by rw [h.gh.1]; exact g1, fun k y u hy hu => ?_⟩, h.pin, fun v x hx => by rw [hw.fx] at hx; cases hx⟩
  · obtain ⟨b0, e1, e2⟩ := hpx hi
    obtain ⟨b0', e1', e2'⟩ := hpx hk
    rw [hpi e1, hpi e1'] at e
    obtain rfl := h.mem.bb b0 b0' e2 e2' e
    exact injN_inv hw.ip i k b0 e1 e1'
  · obtain ⟨b0, e1, e2⟩ := hpx hi
    rw [hpi e1] at e
    obtain ⟨r0, _, e4, e5⟩ := hrx hr e
    exact h.mem.br b0 r0 row sh e2 e4 e5
  · obtain ⟨r0, e1, e2, e3⟩ := hrx hr e
    obtain ⟨r0', e1', e2', e3'⟩ := hrx hr' e'
    obtain rfl := h.mem.rr r0 r0' row row' b sh sh' e2 e2' e3 e3'
    exact injO_inv hw.iq r r' r0 e1 e1'
  · obtain ⟨b0, x, e1, e2, e3, e4⟩ := b2 i y hy
    obtain ⟨C, et, k1, k2, k3⟩ := h.mem.box b0 x e2
    rw [hpi e1]
    refine ⟨C, et, k1, by rw [e4]; exact k2, fun k z u hz hu => ?_⟩
    obtain ⟨z0, hz0, hwz⟩ := e3.cells e4 hz
    exact hV hwz (k3 k z0 u hz0 hu)
  · rcases r2 i row' hr' with ⟨r, e1, e2⟩ | ⟨e1, e2⟩
    · rw [hqi e1]
      have := h.mem.row r row' e2
      cases hm : μ.r r with
      | none => rw [hm] at this; exact this
      | some pr =>
        obtain ⟨b, sh⟩ := pr
        rw [hm] at this
        obtain ⟨k0, k1, C, et, k2, k3, k4⟩ := this
        exact ⟨k0, k1, C, et, k2, k3, fun i k x y u hx hy hu => hD (k4 i k x y u hx hy hu)⟩
    · rw [hqn e1]; exact e2
  · obtain ⟨x, hx, hxy⟩ := l2 k y hy
    exact hV hxy (h.tm.2 k x u hx hu)
  · obtain ⟨x, hx, hxy⟩ := g2 k y hy
    exact hV hxy (h.gh.2 k x u hx hu)

theorem Wk.wkn {p : List Nat} {q : List (Option Nat)} {σ σ' : St} (hw : Wk p q σ σ') : Wkn σ σ' := fun _ _ _ ⟨_, hr⟩ => hw.rel hr
end Go.Aw

namespace Go.Aw
open Go.RowKit
variable {P : Program}

theorem AW.wkn {c : Code} {Q : Exit → St → Prop} {σ σ' : St} (h : AW P c Q σ') (hw : Wkn σ σ') : AW P c Q σ := fun E a w he hr => h E a w he (hw E a w hr)

theorem Wkn.of {tm bx : List V} {rw : List (Option Row)} {gh tm' bx' : List V} {rw' : List (Option Row)} {gh' : List V} {fx : List (Value × V)} (p : List Nat) (q : List (Option Nat))
    (h : WkL p q rw tm tm' ∧ WkL p q rw gh gh' ∧ WkB p q rw bx p bx' ∧ WkR rw q rw') (hi : (injN p && injO q) = true := by rfl) : Wkn ⟨tm, bx, rw, gh, fx⟩ ⟨tm', bx', rw', gh', []⟩ := by
  simp only [Bool.and_eq_true] at hi
  exact Wk.wkn (p := p) (q := q) ⟨hi.1, hi.2, h.1, h.2.1, h.2.2.1, h.2.2.2, rfl⟩

section
variable (p : List Nat) (q : List (Option Nat)) (rw : List (Option Row)) (x y : V)
theorem wkL_nil : WkL p q rw [] [] = True := rfl
theorem wkL_cons (xs ys : List V) : WkL p q rw (x :: xs) (y :: ys) = (WkV p q rw x y ∧ WkL p q rw xs ys) := rfl
theorem wkB_nil (bx : List V) : WkB p q rw bx [] [] = True := rfl
theorem wkB_cons (bx : List V) (b0 : Nat) (ps : List Nat) (ys : List V) : WkB p q rw bx (b0 :: ps) (y :: ys) = ((b0 < bx.length ∧ WkV p q rw (bx.getD b0 .j) y ∧ y.cells.length = (bx.getD b0 .j).cells.length) ∧ WkB p q rw bx ps ys) := rfl
theorem wkR_nil : WkR rw [] [] = True := rfl
theorem wkR_some (r : Nat) (row : Row) (qs : List (Option Nat)) (ys : List (Option Row)) : WkR rw (some r :: qs) (some row :: ys) = (rw.getD r none = some row ∧ WkR rw qs ys) := by simp [WkR]
theorem wkR_new (row : Row) (qs : List (Option Nat)) (ys : List (Option Row)) : WkR rw (none :: qs) (some row :: ys) = (row.xs = [] ∧ WkR rw qs ys) := by simp [WkR]
theorem wkV_j : WkV p q rw x .j = True := rfl
theorem wkV_d (d : D) : WkV p q rw x (.d d) = frzK q rw x d := rfl
theorem nlK_nl : nlK .nl = True := rfl
theorem nlK_c : nlK (.d (.c (.slice none 0 0))) = True := rfl
theorem wkV_o (i off len : Nat) : WkV p q rw x (.o i off len) = oK q i off len x := rfl
theorem wkV_p (b s : Nat) : WkV p q rw x (.p b s) = pK p b s x := rfl
theorem wkV_fp (fn : Fn) (ps : List Nat) : WkV p q rw x (.fp fn ps) = (x = .fp fn (ps.map fun b => p.getD b 0) ∧ ∀ b ∈ ps, b < p.length) := rfl
theorem frz_d (d d' : D) : frzK q rw (.d d') d = (d' = d) := rfl
theorem frz_o (r off len : Nat) (d : D) : frzK q rw (.o r off len) d = (some r ∉ q ∧ optK (rw.getD r none) fun row => d = .l ((row.xs.drop off).take len)) := rfl
theorem oK_zs (r : Nat) (off len : Nat) : oK (some r :: q) 0 off len x = (x = .o r off len) := by simp [oK]
theorem oK_zn (off len : Nat) : oK (none :: q) 0 off len x = (nlK x ∧ off = 0 ∧ len = 0) := by simp [oK]
theorem oK_s (a : Option Nat) (i off len : Nat) : oK (a :: q) (i + 1) off len x = oK q i off len x := by simp [oK]
theorem pK_z (b0 s : Nat) : pK (b0 :: p) 0 s x = (x = .p b0 s) := by simp [pK]
theorem pK_s (a i s : Nat) : pK (a :: p) (i + 1) s x = pK p i s x := by simp [pK]
end

/-- A call whose first argument is nil. -/
theorem callNil {o : Oper} {σ : St} {K : St → Prop} {x : Operand} {ts : Array TypeId} {f : FuncId} {d : D} {R : Res → Prop} (ho : o.op = .call { callee := .value (.func f), args := #[.const (.slice none 0 0), x], argTypes := ts })
    (hx : σ.eval x = .d d) (h : FnA P f [.c (.slice none 0 0), d] R) (hK : ∀ r, R r → resK σ o.dst r K) : Loud P o σ K := by
  rintro E a w K' Q he ⟨μ, hr⟩ hk
  have hv := hr.eval x
  rw [hx] at hv
  have := h.2 w (Fz E w μ σ) [.slice none 0 0, a.eval x] (he.gl hr) (fun b hb => hb.2.1) ⟨rfl, fun k d' v hd hv' => by
    match k, hd, hv' with
    | 0, hd, hv' => simp at hd hv'; subst hd; subst hv'; exact .c _
    | 1, hd, hv' => simp at hd hv'; subst hd; subst hv'; exact hv⟩
  have e : (#[.slice none 0 0, a.eval x] : Array Value) = #[Operand.const (.slice none 0 0), x].map a.eval ++ #[] := by simp [Act.eval]
  have e2 : ([.slice none 0 0, a.eval x] : List Value).toArray = #[.slice none 0 0, a.eval x] := rfl
  rw [e2, e] at this
  exact wpIn_call ho rfl h.1 this (fun e w' ⟨r, v, h1, h2, h3, h4⟩ => ⟨v, h2, res_after hr h3 (.inl fun _ h => h) h4 (hK r h1) hk⟩)

/-- A loop: by what holds at the head of each round. -/
theorem loopW {ι : Type} (S : ι → St) (I : ι → Prop) (m : ι → Nat) {c : Code} {Q : Exit → St → Prop} {σ : St} (i0 : ι) (hI : I i0) (h0 : Wkn σ (S i0))
    (round : ∀ i, I i → aw P c (Qseq (fun σ' => ∃ j, I j ∧ m j < m i ∧ Wkn σ' (S j)) Q) (S i)) : AWH P (.mk : Hid (Code.loop c)) (.mk : Hid Q) σ := by
  intro E a w he hr
  let pr : Act → World → Nat → Prop := fun a w n => ∃ i, I i ∧ RelS E (S i) a w ∧ m i = n
  let mu : Act → World → Nat := fun a w => open Classical in if h : ∃ n, pr a w n then Classical.choose (least h) else 0
  have hmu : ∀ a w, (∃ n, pr a w n) → pr a w (mu a w) ∧ ∀ k, pr a w k → mu a w ≤ k := fun a w h => by
    have : mu a w = Classical.choose (least h) := dif_pos h
    rw [this]
    exact Classical.choose_spec (least h)
  refine wpIn_loop (fun a w => ∃ n, pr a w n) mu ⟨_, i0, hI, h0 _ _ _ hr, rfl⟩ (fun a w hI' => ?_)
  obtain ⟨⟨i, h1, h2, h3⟩, _⟩ := hmu a w hI'
  refine wpIn_mono (aw_sound c (round i h1) E a w he h2) ?_
  rintro e a' w' ⟨σ', h4, h5⟩
  cases e with
  | normal =>
    obtain ⟨j, h6, h7, h8⟩ := h4
    have hp : pr a' w' (m j) := ⟨j, h6, h8 _ _ _ h5, rfl⟩
    exact ⟨⟨_, hp⟩, by have := (hmu a' w' ⟨_, hp⟩).2 _ hp; omega⟩
  | _ => exact ⟨σ', h4, h5⟩
theorem rangeW {ι : Type} (T : List V) (B : ι → List V) (R : ι → List (Option Row)) (I : List Int → ι → Prop) {f : Operand} {p : Tmp} {asg body : Code} {Q : Exit → St → Prop} {σ : St} {gf : FuncId} {caps : List D} {xs : List Int} (i0 : ι)
    (hT : T ≠ []) (hit : IterA P gf caps xs) (hf : St.eval ⟨T, B i0, R i0, [], []⟩ f = .d (.f (.func gf) caps)) (hI : I [] i0) (h0 : Wkn σ ⟨T, B i0, R i0, [], []⟩)
    (round : ∀ pre x i, (pre ++ [x]) <+: xs → I pre i → aw P asg (Qn fun σ1 => aw P body (Qrd Q fun σ' => ∃ j, I (pre ++ [x]) j ∧ Wkn σ' ⟨T, B j, R j, [], []⟩) σ1) ⟨T.set p (.d (Go.Aw.I .i64 x)), B i, R i, T, []⟩)
    (done : ∀ i, I xs i → Q .normal ⟨T, B i, R i, [], []⟩) : AWH P (.mk : Hid (Code.rangeFunc f #[p] asg body)) (.mk : Hid Q) σ :=
  AWH.of (AW.wkn (AW_range T B R I i0 hT hit hf hI round done) h0)
end Go.Aw

namespace Go.Aw
section
variable {α : Type} [Inhabited α]
theorem take_succ_getD {l : List α} {k : Nat} (h : k < l.length) : l.take (k + 1) = l.take k ++ [l.getD k default] := by
  rw [List.take_add_one, List.getElem?_eq_getElem h, List.getD_eq_getElem?_getD, List.getElem?_eq_getElem h]; rfl
theorem getD_mem {l : List α} {k : Nat} (h : k < l.length) : l.getD k default ∈ l := by
  rw [List.getD_eq_getElem?_getD, List.getElem?_eq_getElem h]; exact List.getElem_mem h
theorem all_false {p : α → Bool} {l : List α} {k : Nat} (h : k < l.length) (hp : p (l.getD k default) = false) : l.all p = false := by
  rw [← Bool.not_eq_true, List.all_eq_true]
  intro h'
  rw [h' _ (getD_mem h)] at hp
  cases hp
end
end Go.Aw
namespace Go.Aw
theorem drop_appmap {α : Type} (f : α → D) (l : List α) (ys : List D) : (l.map f ++ ys).drop l.length = ys := by
  rw [List.drop_append_of_le_length (by simp)]; simp
/-- Points put into a set. -/
def addAll (s : Nat) (l : List Nat) : Nat := l.foldl (fun s c => s ||| 2 ^ c) s
theorem addAll_snoc (s : Nat) (l : List Nat) (c : Nat) : addAll s (l ++ [c]) = addAll s l ||| 2 ^ c := by simp [addAll]
theorem addAll_bit (s : Nat) (l : List Nat) (j : Nat) : (addAll s l).testBit j = true ↔ s.testBit j = true ∨ j ∈ l := by
  unfold addAll
  induction l generalizing s with
  | nil => simp
  | cons c l ih =>
    rw [List.foldl_cons, ih, Nat.testBit_or, Bool.or_eq_true, List.mem_cons]
    constructor
    · rintro ((h | h) | h)
      · exact .inl h
      · by_cases hj : j = c
        · exact .inr (.inl hj)
        · rw [Nat.testBit_two_pow_of_ne (fun e => hj e.symm)] at h; cases h
      · exact .inr (.inr h)
    · rintro (h | rfl | h)
      · exact .inl (.inl h)
      · exact .inl (.inr Nat.testBit_two_pow_self)
      · exact .inr h
theorem addAll_lt (s : Nat) (l : List Nat) (hs : s < 2 ^ 64) (hl : ∀ c ∈ l, c < 64) : addAll s l < 2 ^ 64 := by
  unfold addAll
  induction l generalizing s with
  | nil => exact hs
  | cons c l ih => exact ih _ (Nat.or_lt_two_pow hs (Nat.pow_lt_pow_right (by omega) (hl c (by simp)))) (fun x hx => hl x (by simp [hx]))
end Go.Aw

namespace Go.Aw

/-- The points that ways go to: from a, over next, within w. -/
inductive Rch (next : List Nat) (w a : Nat) : Nat → Prop
  | refl : Rch next w a a
  | step {b c : Nat} (h : Rch next w a b) (h1 : (next.getD b default).testBit c = true) (h2 : w.testBit c = true) : Rch next w a c

def union (next : List Nat) (s : Nat) : Nat := (List.range 64).foldl (fun u b => if s.testBit b then u ||| next.getD b default else u) 0
theorem union_bit (next : List Nat) (s j : Nat) : (union next s).testBit j = true ↔ ∃ b, b < 64 ∧ s.testBit b = true ∧ (next.getD b default).testBit j = true := by
  unfold union
  have : ∀ (l : List Nat) (u : Nat), (l.foldl (fun u b => if s.testBit b then u ||| next.getD b default else u) u).testBit j = true ↔ u.testBit j = true ∨ ∃ b, b ∈ l ∧ s.testBit b = true ∧ (next.getD b default).testBit j = true := by
    intro l
    induction l with
    | nil => intro u; simp
    | cons x l ih =>
      intro u
      simp only [List.foldl_cons]
      rw [ih]
      cases hx : s.testBit x
      · simp only [Bool.false_eq_true, if_false, List.mem_cons]
        constructor
        · rintro (h | ⟨b, h1, h2, h3⟩)
          · exact .inl h
          · exact .inr ⟨b, .inr h1, h2, h3⟩
        · rintro (h | ⟨b, rfl | h1, h2, h3⟩)
          · exact .inl h
          · rw [hx] at h2; cases h2
          · exact .inr ⟨b, h1, h2, h3⟩
      · simp only [if_true, Nat.testBit_or, Bool.or_eq_true, List.mem_cons]
        constructor
        · rintro ((h | h) | ⟨b, h1, h2, h3⟩)
          · exact .inl h
          · exact .inr ⟨x, .inl rfl, hx, h⟩
          · exact .inr ⟨b, .inr h1, h2, h3⟩
        · rintro (h | ⟨b, rfl | h1, h2, h3⟩)
          · exact .inl (.inl h)
          · exact .inl (.inr h3)
          · exact .inr ⟨b, h1, h2, h3⟩
  rw [this]
  simp

/-- Of 64 points, those of which p holds. -/
def bset (p : Nat → Bool) : Nat := (List.range 64).foldl (fun u b => if p b then u ||| 2 ^ b else u) 0
theorem bits_eq {a b : Nat} (h : ∀ j, a.testBit j = b.testBit j) : a = b := Nat.eq_of_testBit_eq h

def stepR (next : List Nat) (w s : Nat) : Nat := s ||| (union next s &&& w)
def iterR (next : List Nat) (w : Nat) : Nat → Nat → Nat
  | 0, s => s
  | k + 1, s => stepR next w (iterR next w k s)
/-- The points that ways go to, reckoned. -/
def reach (next : List Nat) (w a : Nat) : Nat := iterR next w 64 (2 ^ a)
def cnt (s : Nat) : Nat := (List.range 64).countP fun i => s.testBit i

theorem countP_le {p q : Nat → Bool} : ∀ (l : List Nat), (∀ x ∈ l, p x = true → q x = true) → l.countP p ≤ l.countP q ∧ ((∃ x ∈ l, p x = false ∧ q x = true) → l.countP p < l.countP q) := by
  intro l
  induction l with
  | nil => intro _; simp
  | cons x l ih =>
    intro h
    obtain ⟨h1, h2⟩ := ih (fun y hy => h y (by simp [hy]))
    have hx := h x (by simp)
    rw [List.countP_cons, List.countP_cons]
    constructor
    · cases hp : p x <;> cases hq : q x <;> simp [hp, hq] at hx ⊢ <;> omega
    · rintro ⟨y, hy, hpy, hqy⟩
      rcases List.mem_cons.1 hy with rfl | hy
      · simp [hpy, hqy]; omega
      · have := h2 ⟨y, hy, hpy, hqy⟩
        cases hp : p x <;> cases hq : q x <;> simp [hp, hq] at hx ⊢ <;> omega
theorem cnt_le (s : Nat) : cnt s ≤ 64 := by
  have := List.countP_le_length (p := fun i => s.testBit i) (l := List.range 64)
  simpa [cnt] using this

section
variable {next : List Nat} {w a : Nat}
theorem union_lt (hn : ∀ x ∈ next, x < 2 ^ 64) (s : Nat) : union next s < 2 ^ 64 := by
  apply Nat.lt_pow_two_of_testBit
  intro i hi
  rw [← Bool.not_eq_true, union_bit]
  rintro ⟨b, _, _, h⟩
  have : next.getD b default < 2 ^ 64 := by
    rw [List.getD_eq_getElem?_getD]
    cases hx : next[b]? with
    | none => decide
    | some y => exact hn y (List.mem_of_getElem? hx)
  rw [Nat.testBit_lt_two_pow (Nat.lt_of_lt_of_le this (Nat.pow_le_pow_right (by omega) hi))] at h
  cases h
theorem stepR_bit (s j : Nat) : (stepR next w s).testBit j = true ↔ s.testBit j = true ∨ ((∃ b, b < 64 ∧ s.testBit b = true ∧ (next.getD b default).testBit j = true) ∧ w.testBit j = true) := by
  rw [stepR, Nat.testBit_or, Bool.or_eq_true, Nat.testBit_and, Bool.and_eq_true, union_bit]
theorem iterR_lt (hn : ∀ x ∈ next, x < 2 ^ 64) (ha : a < 64) (k : Nat) : iterR next w k (2 ^ a) < 2 ^ 64 := by
  induction k with
  | zero => exact Nat.pow_lt_pow_right (by omega) ha
  | succ k ih => exact Nat.or_lt_two_pow ih (Nat.lt_of_le_of_lt Nat.and_le_left (union_lt hn _))
theorem iterR_sound (k j : Nat) (h : (iterR next w k (2 ^ a)).testBit j = true) : Rch next w a j := by
  induction k generalizing j with
  | zero =>
    have : j = a := by
      rcases Nat.decEq j a with h' | h'
      · rw [iterR, Nat.testBit_two_pow_of_ne (fun e => h' e.symm)] at h; cases h
      · exact h'
    subst this
    exact .refl
  | succ k ih =>
    rw [iterR, stepR_bit] at h
    rcases h with h | ⟨⟨b, _, h1, h2⟩, h3⟩
    · exact ih _ h
    · exact .step (ih _ h1) h2 h3
theorem rch_lt (hn : ∀ x ∈ next, x < 2 ^ 64) (ha : a < 64) {j : Nat} (h : Rch next w a j) : j < 64 := by
  cases h with
  | refl => exact ha
  | step h h1 h2 =>
    rename_i b
    rcases Nat.lt_or_ge j 64 with h' | h'
    · exact h'
    · have : next.getD b default < 2 ^ 64 := by
        rw [List.getD_eq_getElem?_getD]
        cases hx : next[b]? with
        | none => decide
        | some y => exact hn y (List.mem_of_getElem? hx)
      rw [Nat.testBit_lt_two_pow (Nat.lt_of_lt_of_le this (Nat.pow_le_pow_right (by omega) h'))] at h1
      cases h1
theorem fix_complete (hn : ∀ x ∈ next, x < 2 ^ 64) (ha : a < 64) {s : Nat} (h0 : s.testBit a = true) (hf : stepR next w s = s) {j : Nat} (h : Rch next w a j) : s.testBit j = true := by
  induction h with
  | refl => exact h0
  | step h h1 h2 ih =>
    rw [← hf, stepR_bit]
    exact .inr ⟨⟨_, rch_lt hn ha h, ih, h1⟩, h2⟩
theorem iterR_start (k : Nat) : (iterR next w k (2 ^ a)).testBit a = true := by
  induction k with
  | zero => exact Nat.testBit_two_pow_self
  | succ k ih => rw [iterR, stepR_bit]; exact .inl ih
theorem iterR_fix (hn : ∀ x ∈ next, x < 2 ^ 64) (ha : a < 64) (k : Nat) : stepR next w (iterR next w k (2 ^ a)) = iterR next w k (2 ^ a) ∨ k + 1 ≤ cnt (iterR next w k (2 ^ a)) := by
  induction k with
  | zero =>
    right
    have : 0 < (List.range 64).countP fun i => (2 ^ a).testBit i := List.countP_pos_iff.2 ⟨a, by simpa using ha, Nat.testBit_two_pow_self⟩
    exact this
  | succ k ih =>
    by_cases hf : stepR next w (iterR next w k (2 ^ a)) = iterR next w k (2 ^ a)
    · left
      show stepR next w (stepR next w (iterR next w k (2 ^ a))) = stepR next w (iterR next w k (2 ^ a))
      rw [hf, hf]
    · right
      have h1 := ih.resolve_left hf
      have hne : ∃ j, j < 64 ∧ (iterR next w k (2 ^ a)).testBit j = false ∧ (stepR next w (iterR next w k (2 ^ a))).testBit j = true := by
        refine Classical.byContradiction fun hno => hf (bits_eq fun j => ?_)
        cases h2 : (iterR next w k (2 ^ a)).testBit j with
        | true => rw [stepR_bit]; exact .inl h2
        | false =>
          rw [← Bool.not_eq_true]
          intro h3
          refine hno ⟨j, ?_, h2, h3⟩
          rcases Nat.lt_or_ge j 64 with h' | h'
          · exact h'
          · have := iterR_lt (w := w) hn ha (k + 1)
            rw [show stepR next w (iterR next w k (2 ^ a)) = iterR next w (k + 1) (2 ^ a) from rfl, Nat.testBit_lt_two_pow (Nat.lt_of_lt_of_le this (Nat.pow_le_pow_right (by omega) h'))] at h3
            cases h3
      obtain ⟨j, hj, h3, h4⟩ := hne
      have := (countP_le (p := fun i => (iterR next w k (2 ^ a)).testBit i) (q := fun i => (stepR next w (iterR next w k (2 ^ a))).testBit i) (List.range 64) (fun x _ hx => by rw [stepR_bit]; exact .inl hx)).2 ⟨j, by simpa using hj, h3, h4⟩
      show k + 1 + 1 ≤ cnt (stepR next w (iterR next w k (2 ^ a)))
      unfold cnt at h1 ⊢
      omega
theorem reach_bit (hn : ∀ x ∈ next, x < 2 ^ 64) (ha : a < 64) (j : Nat) : (reach next w a).testBit j = true ↔ Rch next w a j := by
  refine ⟨iterR_sound 64 j, fun h => ?_⟩
  refine fix_complete hn ha (iterR_start 64) ?_ h
  rcases iterR_fix (w := w) hn ha 64 with h | h
  · exact h
  · have := cnt_le (iterR next w 64 (2 ^ a)); omega
theorem reach_lt (hn : ∀ x ∈ next, x < 2 ^ 64) (ha : a < 64) : reach next w a < 2 ^ 64 := iterR_lt hn ha 64
/-- What is told by its bits. -/
theorem reach_eq (hn : ∀ x ∈ next, x < 2 ^ 64) (ha : a < 64) {s : Nat} (h : ∀ j, s.testBit j = true ↔ Rch next w a j) : s = reach next w a := bits_eq fun j => by
  have h1 := h j
  rw [← reach_bit hn ha] at h1
  cases h2 : s.testBit j <;> cases h3 : (reach next w a).testBit j <;> simp [h2, h3] at h1 <;> rfl
end
end Go.Aw

namespace Go.Aw
open Go.RowKit
variable {P : Program}

theorem BinC.uniq {op : BinOp} {t : TypeId} {x y : Operand} {a b r r' : Value} (h : BinC P op t x y a b r) (h' : BinC P op t x y a b r') : r = r' := by
  have := (h default).symm.trans (h' default)
  cases this
  rfl
theorem binX {op : BinOp} {t : TypeId} {x y : Operand} {a b r : Value} (h : BinC P op t x y a b r) (C : V → Prop) : (∃ r, BinC P op t x y a b r ∧ C (.d (.c r))) = C (.d (.c r)) := by
  apply propext
  constructor
  · rintro ⟨r', h1, h2⟩
    rw [h.uniq h1]; exact h2
  · intro h2; exact ⟨_, h, h2⟩
theorem run_binop_eql (w : World) (t : TypeId) (a b : Value) (r : Bool) (hb : binOp .eql t a b = do pure (.bool (← Op.equal t a b))) (h : ∀ d : Nat, (Op.equalIn (d + 1) t a b).run P w = .ok r w) : (binOp .eql t a b).run P w = .ok (.bool r) w := by
  rw [hb]
  simp [Op.equal, Op.maxDepth, h 9999]
theorem run_binop_neq (w : World) (t : TypeId) (a b : Value) (r : Bool) (hb : binOp .neq t a b = do pure (.bool (!(← Op.equal t a b)))) (h : ∀ d : Nat, (Op.equalIn (d + 1) t a b).run P w = .ok r w) : (binOp .neq t a b).run P w = .ok (.bool (!r)) w := by
  rw [hb]
  simp [Op.equal, Op.maxDepth, h 9999]
section
variable {t : TypeId} {ms : Array (String × TypeId)} (ht : P.underlying t = some (.interface ms)) (x : Operand)
include ht
theorem nil_eql : BinC P .eql t x (.const .nilIface) .nilIface .nilIface (.bool true) := fun w => by
  have hg : eqGuard .eql t x (.const .nilIface) .nilIface .nilIface = pure () := by cases x <;> rfl
  rw [Sem.run_bind, hg]
  exact run_binop_eql w t _ _ true rfl (fun d => by simp [Op.equalIn, run_underlying ht])
theorem nil_neq : BinC P .neq t x (.const .nilIface) .nilIface .nilIface (.bool false) := fun w => by
  have hg : eqGuard .neq t x (.const .nilIface) .nilIface .nilIface = pure () := by cases x <;> rfl
  rw [Sem.run_bind, hg]
  exact run_binop_neq w t _ _ true rfl (fun d => by simp [Op.equalIn, run_underlying ht])
theorem some_eql (y : Operand) (u : TypeId) (v : Value) : BinC P .eql t x y (.iface u v) .nilIface (.bool false) := fun w => by
  have hg : eqGuard .eql t x y (.iface u v) .nilIface = pure () := rfl
  rw [Sem.run_bind, hg]
  exact run_binop_eql w t _ _ false rfl (fun d => by simp [Op.equalIn, run_underlying ht])
theorem some_neq (y : Operand) (u : TypeId) (v : Value) : BinC P .neq t x y (.iface u v) .nilIface (.bool true) := fun w => by
  have hg : eqGuard .neq t x y (.iface u v) .nilIface = pure () := rfl
  rw [Sem.run_bind, hg]
  exact run_binop_neq w t _ _ false rfl (fun d => by simp [Op.equalIn, run_underlying ht])
end
theorem bool_neq {t : TypeId} (ht : P.underlying t = some .bool) (x y : Operand) (a b : Bool) : BinC P .neq t x y (.bool a) (.bool b) (.bool (!(a == b))) := fun w => by
  have hg : eqGuard .neq t x y (.bool a) (.bool b) = pure () := rfl
  rw [Sem.run_bind, hg]
  exact run_binop_neq w t _ _ _ rfl (fun d => by simp [Op.equalIn, run_underlying ht])
theorem binE_neb {t : TypeId} (ht : P.underlying t = some .bool) (x y : Operand) (a b : Bool) (C : V → Prop) : binE P .neq t x y (.d (Bo a)) (.d (Bo b)) C = C (.d (Bo (!(a == b)))) := binX (bool_neq ht x y a b) C
end Go.Aw

namespace Go.Aw
open Go.RowKit
variable {P : Program}
/-- Before a call less may be known: an owned row be data. -/
theorem Loud.frz {o : Oper} {σ : St} {K : St → Prop} (σ' : St) (hw : Wkn σ σ') (h : LoudH P (.mk : Hid o) σ' (.mk : Hid K)) : Loud P o σ K := fun E a w K' Q he hr hk => h E a w K' Q he (hw E a w hr) hk
theorem AW.frz {c : Code} {Q : Exit → St → Prop} {σ : St} (σ' : St) (hw : Wkn σ σ') (h : AWH P (.mk : Hid c) (.mk : Hid Q) σ') : AW P c Q σ := AW.wkn h hw
end Go.Aw

namespace Go.Aw
open Go.RowKit
variable {P : Program}

/-- A function that works on lent memory: it gives a plain datum. -/
def FnM (P : Program) (f : FuncId) (vs bx : List V) (rw : List (Option Row)) (gh : List V) (Kf : D → List V → List (Option Row) → List V → Prop) : Prop :=
  (∀ args w, (callFunc f args).run P w = .ok (.enter f args) w) ∧
  ∀ (E : Env) (μ : Map) (us : List Value) (w : World), EOK P E → E.ro = none → (∀ l o, ¬ E.pin l o) → Rel E ⟨vs, bx, rw, gh, []⟩ μ ⟨us.toArray, []⟩ w →
    CallsIn Fence.wide 0 P f us.toArray w fun e w' => ∃ v d bx' rw' gh' μ', e = .returned v ∧ Kf d bx' rw' gh' ∧ RelD w' (Al E w') d v ∧ Rel E ⟨[], bx', rw', gh', []⟩ μ' ⟨#[], []⟩ w'

/-- What the body of such a function must come to. -/
def QretM (P : Program) (rvs : List ResultVar) (Kf : D → List V → List (Option Row) → List V → Prop) : Exit → St → Prop
  | .normal, σ => retD P σ rvs fun d => Kf d σ.bx σ.rw σ.gh
  | .ret, σ => retD P σ rvs fun d => Kf d σ.bx σ.rw σ.gh
  | _, _ => False

theorem FnM.of {f : FuncId} {fn : Func} {c : Code} {vs bx : List V} {rw : List (Option Row)} {gh : List V} {Kf : D → List V → List (Option Row) → List V → Prop} (hf : P.funcs[f]? = some fn) (hb : fn.body = some c) (hname : (fn.name == "runtime.NumGoroutine") = false)
    (h : aw P c (QretM P fn.results.toList Kf) ⟨vs ++ List.replicate (fn.ntmps - vs.length) .j, bx, rw, gh, []⟩) : FnM P f vs bx rw gh Kf := by
  refine ⟨fun args w => Go.Proofs.enters_of hf hname hb args w, fun E μ us w he hro hpin hr => ?_⟩
  refine callsIn_of_wp_marks hf hb trivial ?_ rfl
  have hsz : us.length = vs.length := by have := hr.tm.1; simpa using this
  have h0 : RelS E ⟨vs ++ List.replicate (fn.ntmps - vs.length) .j, bx, rw, gh, []⟩ { tmps := us.toArray ++ Array.replicate (fn.ntmps - us.toArray.size) undef, defers := [] } w := by
    refine ⟨μ, hr.move rfl rfl (fun _ => .inl rfl) (Nat.le_refl _) (fun b hb => hb.1) hr.stp hr.own ⟨[], rfl, by simp, by simp⟩ hr.pin ⟨by simp [hsz], fun k x u hx hu => ?_⟩ ⟨hr.gh.1, hr.gh.2⟩ (fun v x hx => by cases hx)⟩
    by_cases hk : k < vs.length
    · rw [List.getElem?_append_left hk] at hx
      rw [Array.getElem?_append_left (by simp [hsz]; exact hk)] at hu
      exact hr.tm.2 k x u hx hu
    · rw [List.getElem?_append_right (by omega)] at hx
      have : x = .j := List.eq_of_mem_replicate (List.mem_of_getElem? hx)
      subst this
      trivial
  have hw := aw_sound c h E _ w he h0
  rw [show FW E.ro = Fence.wide by rw [hro]; rfl] at hw
  refine wpIn_mono hw ?_
  rintro e a w' ⟨σ, hq, μ', hr'⟩
  have fin : (retD P σ fn.results.toList fun d => Kf d σ.bx σ.rw σ.gh) → LeavesInM Fence.wide 0 P fn a.tmps (fun e w' => ∃ v d bx' rw' gh' μ', e = .returned v ∧ Kf d bx' rw' gh' ∧ RelD w' (Al E w') d v ∧ Rel E ⟨[], bx', rw', gh', []⟩ μ' ⟨#[], []⟩ w') a.defers .returning w' := by
    intro hq
    obtain ⟨ms, m1, m2, m3⟩ := hr'.marks
    rw [m1]
    refine leaves_marks ms w' m2 (fun r hr' => (m3 r hr').2) (fun w'' hs => ?_)
    have hr2 := hr'.shut m3 hs hpin
    obtain ⟨d, v, g1, g2, g3⟩ := results_sound (fn := fn) hr2 hq
    refine ⟨v, g3, v, d, σ.bx, σ.rw, σ.gh, μ', rfl, g1, g2, ?_⟩
    exact hr2.move rfl rfl (fun _ => .inl rfl) (Nat.le_refl _) (fun b hb => hb.1) hr2.stp hr2.own ⟨[], rfl, by simp, by simp⟩ hr2.pin ⟨rfl, fun k x u hx => by simp at hx⟩ ⟨hr2.gh.1, hr2.gh.2⟩ (fun v x hx => by cases hx)
  cases e with
  | normal => exact fin hq
  | ret => exact fin hq
  | _ => exact hq.elim

/-- A call that lends all that is owned. -/
theorem callM {o : Oper} {σ : St} {K : St → Prop} {fo : Operand} {args : List Operand} {ts : Array TypeId} {f : FuncId} {ps : List Nat} {Kf : D → List V → List (Option Row) → List V → Prop} (ho : o.op = .call { callee := .value fo, args := args.toArray, argTypes := ts })
    (hfo : σ.eval fo = .fp (.func f) ps) (h : FnM P f (args.map σ.eval ++ ps.map fun b => .p b 0) σ.bx σ.rw (σ.tm ++ σ.gh) Kf)
    (hK : ∀ d bx' rw' gh', Kf d bx' rw' gh' → D.flat d = true ∧ K (St.put { tm := gh'.take σ.tm.length, bx := bx', rw := rw', gh := gh'.drop σ.tm.length } o.dst (.d d))) : Loud P o σ K := by
  rintro E a w K' Q he ⟨μ, hr⟩ hk
  have hv := hr.eval fo
  rw [hfo] at hv
  obtain ⟨us, hfn, hps, hcap⟩ := hv
  have hTl : a.tmps.toList.length = σ.tm.length := by rw [Array.length_toList]; exact hr.tm.1
  let E' : Env := { w0 := w, N := Fz E w μ σ, Ow := Own μ σ, gh := a.tmps.toList ++ E.gh }
  have hr1 : Rel E' ⟨args.map σ.eval ++ ps.map fun b => .p b 0, σ.bx, σ.rw, σ.tm ++ σ.gh, []⟩ μ ⟨(args.map a.eval ++ us.toList).toArray, []⟩ w := by
    refine hr.move (E' := E') rfl rfl (fun _ => .inl rfl) (Nat.le_refl _) (fun b hb => .inl hb) (Stp.refl _ w) (fun b hb => .inr hb) ⟨[], rfl, by simp, by simp⟩ (fun l o h => h.elim) ⟨by simp [hps], fun k x u hx hu => ?_⟩ ⟨?_, fun k x u hx hu => ?_⟩ (fun v x hx => by cases hx)
    · have hu : (args.map a.eval ++ us.toList)[k]? = some u := by simpa using hu
      by_cases hk' : k < args.length
      · rw [List.getElem?_append_left (by simpa using hk'), List.getElem?_map, List.getElem?_eq_getElem hk'] at hx hu
        cases hx; cases hu
        exact hr.eval _
      · rw [List.getElem?_append_right (by simpa using hk'), List.length_map] at hx hu
        rw [List.getElem?_map] at hx
        cases hb : ps[k - args.length]? with
        | none => rw [hb] at hx; cases hx
        | some b =>
          rw [hb] at hx
          cases hx
          obtain ⟨u', h1, h2⟩ := hcap _ b hb
          rw [Array.getElem?_toList, h1] at hu
          cases hu
          exact h2
    · show (a.tmps.toList ++ E.gh).length = (σ.tm ++ σ.gh).length
      rw [List.length_append, List.length_append, hTl, hr.gh.1]
    · replace hu : (a.tmps.toList ++ E.gh)[k]? = some u := hu
      replace hx : (σ.tm ++ σ.gh)[k]? = some x := hx
      by_cases hk' : k < σ.tm.length
      · rw [List.getElem?_append_left hk'] at hx
        rw [List.getElem?_append_left (by rw [hTl]; exact hk'), Array.getElem?_toList] at hu
        exact hr.tm.2 k x u hx hu
      · rw [List.getElem?_append_right (by omega)] at hx
        rw [List.getElem?_append_right (by rw [hTl]; omega), hTl] at hu
        exact hr.gh.2 (k - σ.tm.length) x u hx hu
  have hcall := h.2 E' μ (args.map a.eval ++ us.toList) w ⟨he.gl hr, fun g hg => he.own hr hg⟩ rfl (fun _ _ h => h) hr1
  have e : (args.map a.eval ++ us.toList).toArray = args.toArray.map a.eval ++ us := by apply Array.ext'; simp
  rw [e] at hcall
  refine wpIn_call (ro := E.ro) ho hfn h.1 hcall (fun e w' ⟨v, d, bx', rw', gh', μ', h1, h2, h3, h4⟩ => ⟨v, h1, ?_⟩)
  obtain ⟨hf, hK'⟩ := hK d bx' rw' gh' h2
  have hgl : gh'.length = σ.tm.length + E.gh.length := by
    have := h4.gh.1
    rw [show E'.gh = a.tmps.toList ++ E.gh from rfl, List.length_append, hTl] at this
    exact this.symm
  have hkept : ∀ (k : Nat) (ob : Obj), w.heap[k]? = some ob → ob.isCells = false → w'.heap[k]? = some ob := fun k ob hk ho => by
    have hlt := (Array.getElem?_eq_some_iff.1 hk).1
    exact (h4.stp.block k hlt (notCells_own hr hk ho)).trans hk
  have hb : Rel E { tm := gh'.take σ.tm.length, bx := bx', rw := rw', gh := gh'.drop σ.tm.length } μ' a w' := by
    refine h4.move rfl rfl (fun _ => .inl rfl) (Nat.le_refl _) (fun b hb => ?_) ?_ (fun b hb => ?_) ?_ (hr.pin.keep hkept) ⟨?_, fun k x u hx hu => ?_⟩ ⟨?_, fun k x u hx hu => ?_⟩ (fun v x hx => by cases hx)
    · rcases hb.1 with h' | h' | h'
      · exact h'.1
      · exact .inr (.inl (Nat.le_trans hr.stp.size h'))
      · exact .inr (hr.own b h')
    · exact hr.stp.trans h4.stp (fun b hb => (hr.own b hb).symm)
    · rcases h4.own b hb with h' | h'
      · exact .inl (Nat.le_trans hr.stp.size h')
      · exact hr.own b h'
    · obtain ⟨ds, d1, d2, d3⟩ := hr.marks
      exact ⟨ds, d1, d2, fun r hr => ⟨(d3 r hr).1, hkept r _ (d3 r hr).2 rfl⟩⟩
    · show a.tmps.size = (gh'.take σ.tm.length).length
      rw [List.length_take]
      have := hr.tm.1
      omega
    · have hk' : k < σ.tm.length := by
        have := (List.getElem?_eq_some_iff.1 hx).1
        simp at this; omega
      rw [List.getElem?_take_of_lt hk'] at hx
      exact h4.gh.2 k x u hx (by show (a.tmps.toList ++ E.gh)[k]? = some u; rw [List.getElem?_append_left (by rw [hTl]; exact hk'), Array.getElem?_toList]; exact hu)
    · show E.gh.length = (gh'.drop σ.tm.length).length
      rw [List.length_drop]; omega
    · rw [List.getElem?_drop] at hx
      refine h4.gh.2 (σ.tm.length + k) x u hx ?_
      show (a.tmps.toList ++ E.gh)[σ.tm.length + k]? = some u
      rw [List.getElem?_append_right (by rw [hTl]; omega), hTl, Nat.add_sub_cancel_left]
      exact hu
  exact hk _ _ _ hK' ⟨μ', hb.put o.dst (flat_rel hf h3)⟩
end Go.Aw

namespace Go.Aw
open Go.RowKit
variable {P : Program}

/-- The first n operations in any order, the others as they stand. -/
def awHn (P : Program) (ops : Array Oper) : Nat → List Oper → St → (St → Prop) → Prop
  | 0, l, σ, K => awOps P ops l σ K
  | _ + 1, [], σ, K => K σ
  | n + 1, o :: os, σ, K => match o.guard with
    | none => awQ P o σ fun v => awHn P ops n os (σ.put o.dst v) K
    | some gw => gdK (gval ops σ gw.1) gw.2 (awQ P o σ fun v => awHn P ops n os (σ.put o.dst v) K) (awHn P ops n os (σ.put o.dst junk) K)

theorem head_runN {ops : Array Oper} {n : Nat} (hD : DrawOK ops n) {σ : St} {K : St → Prop} (h : awHn P ops n ops.toList σ K) :
    ∀ i, i ≤ n → ∃ v, (∀ k, k < i → HeadAt P ops n σ v k) ∧ awHn P ops (n - i) (ops.toList.drop i) { σ with tm := tmL ops n v σ.tm (fun k => decide (k < i)) } K := by
  intro i
  induction i with
  | zero =>
    intro _
    refine ⟨fun _ => .j, fun k hk => by omega, ?_⟩
    rw [tmL_none _ _ _ (fun k _ => by simp)]
    exact h
  | succ i ih =>
    intro hi
    obtain ⟨v, hv, hrun⟩ := ih (by omega)
    have hlt : i < ops.toList.length := by have := hD.le; simp; omega
    rw [List.drop_eq_getElem_cons hlt] at hrun
    have ho : ops[i]? = some ops.toList[i] := by rw [← Array.getElem?_toList]; exact List.getElem?_eq_getElem hlt
    generalize ops.toList[i] = o at ho hrun
    rw [show n - i = (n - (i + 1)) + 1 by omega] at hrun
    unfold awHn at hrun
    have hdst : dstOf ops i = o.dst := by simp [dstOf, ho]
    -- on with one value more
    have next : ∀ x : V, awHn P ops (n - (i + 1)) (ops.toList.drop (i + 1)) (St.put { σ with tm := tmL ops n v σ.tm (fun k => decide (k < i)) } o.dst x) K →
        (∀ v', (∀ k, k < i → v' k = v k) → v' i = x → HeadAt P ops n σ v' i) → ∃ v', (∀ k, k < i + 1 → HeadAt P ops n σ v' k) ∧ awHn P ops (n - (i + 1)) (ops.toList.drop (i + 1)) { σ with tm := tmL ops n v' σ.tm (fun k => decide (k < i + 1)) } K := by
      intro x hrun' hx
      let v' : Nat → V := fun k => if k = i then x else v k
      have hvv : ∀ j, j ≤ i → tmL ops n v' σ.tm (fun k => decide (k < j)) = tmL ops n v σ.tm (fun k => decide (k < j)) := fun j hj => by
        apply List.ext_getElem?
        intro t
        rw [tmL_get, tmL_get]
        congr 1
        funext y
        cases hf : (List.range n).find? (fun k => decide (k < j) && (dstOf ops k == some t)) with
        | none => rfl
        | some k =>
          have := List.find?_some hf
          simp at this
          simp only [v']
          rw [if_neg (by omega)]
      refine ⟨v', fun k hk => ?_, ?_⟩
      · by_cases hki : k = i
        · subst hki
          exact hx v' (fun j hj => by simp only [v']; rw [if_neg (by omega)]) (by simp [v'])
        · have := hv k (by omega)
          unfold HeadAt at this ⊢
          rw [hvv k (by omega), show v' k = v k by simp [v', hki]]
          exact this
      · have e : (fun k => decide (k < i + 1)) = fun k => decide (k < i) || k == i := by
          funext k
          by_cases h1 : k < i
          · simp [h1]; omega
          · by_cases h2 : k = i
            · simp [h2]
            · have : (k == i) = false := by simp; exact h2
              simp [h1, this]; omega
        rw [e, tmL_step (v := v') (tm := σ.tm) (L := fun k => decide (k < i)) (by omega) hD.dist, hvv i (Nat.le_refl _), hdst, show v' i = x by simp [v']]
        cases hd : o.dst with
        | none => rw [hd] at hrun'; exact hrun'
        | some d => rw [hd] at hrun'; exact hrun'
    have hsame : ∀ v', (∀ k, k < i → v' k = v k) → tmL ops n v' σ.tm (fun k => decide (k < i)) = tmL ops n v σ.tm (fun k => decide (k < i)) := fun v' hv' => by
      apply List.ext_getElem?
      intro t
      rw [tmL_get, tmL_get]
      congr 1
      funext y
      cases hf : (List.range n).find? (fun k => decide (k < i) && (dstOf ops k == some t)) with
      | none => rfl
      | some k =>
        have := List.find?_some hf
        simp at this
        exact hv' k this.1
    cases hg : o.guard with
    | none =>
      rw [hg] at hrun
      obtain ⟨x, h1, h2⟩ := awQ_inv hrun
      refine next x h1 (fun v' hv' hx o' ho' => ?_)
      rw [ho] at ho'
      cases ho'
      rw [hg]
      simp only
      rw [hsame v' hv', hx]
      exact h2
    | some gw =>
      rw [hg] at hrun
      obtain ⟨g, want⟩ := gw
      rcases gdK_inv hrun with ⟨h1, h2⟩ | ⟨h1, h2⟩
      · obtain ⟨x, h3, h4⟩ := awQ_inv h2
        refine next x h3 (fun v' hv' hx o' ho' => ?_)
        rw [ho] at ho'
        cases ho'
        rw [hg]
        simp only
        rw [hsame v' hv', hx]
        exact .inl ⟨h1, h4⟩
      · refine next junk h2 (fun v' hv' hx o' ho' => ?_)
        rw [ho] at ho'
        cases ho'
        rw [hg]
        simp only
        rw [hsame v' hv', hx]
        exact .inr ⟨h1, rfl⟩


theorem draw_n {id : Nat} {ops : Array Oper} {Q : Exit → St → Prop} {σ : St} (n : Nat) (hm : P.follows .mixedOrders = true) (hok : drawOK ops n = true) (h : awHn P ops n ops.toList σ (Q .normal)) : AW P (.region id ops true) Q σ := by
  intro E a w he hr
  have hD := drawOK_of hok
  obtain ⟨v, hv, hrun⟩ := head_runN hD h n (Nat.le_refl _)
  rw [Nat.sub_self] at hrun
  have hrun : awOps P ops (ops.toList.drop n) _ (Q .normal) := hrun
  refine wpIn_region_any hm (head_any (E := E) hD he hv (fun a' w' hr' => ?_) ops.size _ a _ ?_ ?_ ?_)
  · have := awOps_sound _ hrun E a' w' (lift E Q) he hr' (fun σ' _ _ h' hr' => ⟨σ', h', hr'⟩)
    have e := wpOpsIn_eq_wpListIn (F := FW E.ro) (n := 0) (P := P) (ops := ops) (Q := lift E Q) (ops.toList.drop n) n (fun j => by rw [List.getElem?_drop, Array.getElem?_toList])
    have hl : (ops.toList.drop n).length = ops.size - n := by simp
    rw [hl] at e
    rw [e]
    exact this
  · exact ⟨by simp, fun j oj _ hl => (by rw [getD_replicate_false] at hl; cases hl), fun t _ ht => (by simp [ht])⟩
  · have := List.length_filter_le (fun k => !(Array.replicate ops.size false).getD k false) (List.range ops.size)
    simpa using this
  · rw [tmL_none _ _ _ (fun k _ => getD_replicate_false _ _)]
    exact hr.later (Stp.drew w)

section
variable (ops : Array Oper) (K : St → Prop) (σ : St) (dst : Option Tmp) (ty : TypeId) (pos : String) (af : Array Edge) (os : List Oper) (n : Nat)
theorem hn_z (l : List Oper) : awHn P ops 0 l σ K = awOps P ops l σ K := rfl
theorem hn_n (op : Op) : awHn P ops (n + 1) (⟨dst, op, ty, pos, af, none⟩ :: os) σ K = awQ P ⟨dst, op, ty, pos, af, none⟩ σ fun v => evK (σ.put dst v) (.mk : Hid fun σ' => awHn P ops n os σ' K) := rfl
theorem hn_g (op : Op) (g : Nat) (w : Bool) : awHn P ops (n + 1) (⟨dst, op, ty, pos, af, some (g, w)⟩ :: os) σ K = evK (gval ops σ g) (.mk : Hid fun v => gdK v w (awQ P ⟨dst, op, ty, pos, af, some (g, w)⟩ σ fun v => evK (σ.put dst v) (.mk : Hid fun σ' => awHn P ops n os σ' K)) (evK (σ.put dst junk) (.mk : Hid fun σ' => awHn P ops n os σ' K))) := rfl
end

/-- Behind a round, with more put away. -/
def St.backN (n : Nat) (σ : St) : St := { tm := σ.gh.take n, bx := σ.bx, rw := σ.rw, gh := σ.gh.drop n }
theorem backN_mk (n : Nat) (tm bx : List V) (rw : List (Option Row)) (gh : List V) (fx : List (Value × V)) : St.backN n ⟨tm, bx, rw, gh, fx⟩ = ⟨gh.take n, bx, rw, gh.drop n, []⟩ := rfl
theorem QB_n (bk : St → St) (Q : Exit → St → Prop) (K : St → Prop) (σ : St) : QrdB bk Q K .normal σ = evK (bk σ) (.mk : Hid K) := rfl
theorem QB_r (bk : St → St) (Q : Exit → St → Prop) (K : St → Prop) (σ : St) : QrdB bk Q K .ret σ = evK (bk σ) (.mk : Hid fun σ => Q .ret σ) := rfl
theorem QB_x (bk : St → St) (Q : Exit → St → Prop) (K : St → Prop) (id : Nat) (σ : St) : QrdB bk Q K (.exit id) σ = evK (bk σ) (.mk : Hid fun σ => Q (.exit id) σ) := rfl
theorem QM_r (rvs : List ResultVar) (Kf : D → List V → List (Option Row) → List V → Prop) (σ : St) : QretM P rvs Kf .ret σ = retD P σ rvs fun d => Kf d σ.bx σ.rw σ.gh := rfl
/-- A range within a lent run. -/
theorem rangeG {ι : Type} (T G : List V) (B : ι → List V) (R : ι → List (Option Row)) (I : List Int → ι → Prop) {f : Operand} {p : Tmp} {asg body : Code} {Q : Exit → St → Prop} {σ : St} {gf : FuncId} {caps : List D} {xs : List Int} (i0 : ι)
    (hit : IterA P gf caps xs) (hf : St.eval ⟨T, B i0, R i0, G, []⟩ f = .d (.f (.func gf) caps)) (hI : I [] i0) (h0 : Wkn σ ⟨T, B i0, R i0, G, []⟩)
    (round : ∀ pre x i, (pre ++ [x]) <+: xs → I pre i → aw P asg (Qn fun σ1 => aw P body (QrdB (St.backN T.length) Q fun σ' => ∃ j, I (pre ++ [x]) j ∧ Wkn σ' ⟨T, B j, R j, G, []⟩) σ1) ⟨T.set p (.d (Go.Aw.I .i64 x)), B i, R i, T ++ G, []⟩)
    (done : ∀ i, I xs i → Q .normal ⟨T, B i, R i, G, []⟩) : AWH P (.mk : Hid (Code.rangeFunc f #[p] asg body)) (.mk : Hid Q) σ :=
  AWH.of (AW.wkn (AW_rangeX T G B R I i0 (St.backN T.length) (fun _ _ => rfl) hit hf hI round done) h0)
/-- Slots alone are forgotten. -/
theorem Wkn.tm {tm tm' bx : List V} {rw : List (Option Row)} {gh : List V} {fx : List (Value × V)} (hl : tm'.length = tm.length) (h : ∀ (k : Nat) (x : V), tm'[k]? = some x → x = .j ∨ tm[k]? = some x) : Wkn ⟨tm, bx, rw, gh, fx⟩ ⟨tm', bx, rw, gh, fx⟩ := by
  rintro E a w ⟨μ, hr⟩
  exact ⟨μ, hr.weak hl h⟩
end Go.Aw

namespace Go.Aw
open Go.RowKit
variable {P : Program}

/-- One way out of a loop has a law of its own. -/
def QX (id : Nat) (K : St → Prop) (Q : Exit → St → Prop) : Exit → St → Prop
  | .exit id', σ => if id' = id then K σ else Q (.exit id') σ
  | e, σ => Q e σ
end Go.Aw

namespace Go.Aw
open Go.RowKit
variable {P : Program}
/-- It knows of the first n boxes alone. -/
def V.below (n : Nat) : V → Prop
  | .p b _ => b < n
  | .fp _ ps => ∀ b ∈ ps, b < n
  | _ => True
theorem RelV.shrink {E : Env} {σ : St} {μ : Map} {w : World} {L : List V} (hL : L.length ≤ σ.bx.length) {x : V} {v : Value} (hx : x.below L.length) (h : RelV E w μ σ x v) : RelV E w μ { σ with bx := L } x v := by
  have hown : ∀ b, Own μ { σ with bx := L } b → Own μ σ b := by
    rintro b (⟨i, hi, e⟩ | ⟨r, row, sh, hr, hm⟩)
    · exact .inl ⟨i, Nat.lt_of_lt_of_le hi hL, e⟩
    · exact .inr ⟨r, row, sh, hr, hm⟩
  cases x with
  | d x => exact RelD.mono (fun b hb => ⟨⟨hb.1, hb.2.1, fun ho => hb.2.2 (hown b ho)⟩, .inl rfl⟩) h
  | j => trivial
  | nl => exact h
  | o r off len => exact h
  | p b sub => exact ⟨hx, h.2⟩
  | e r idx sub => exact h
  | fp fn ps =>
    obtain ⟨us, h1, h2, h3⟩ := h
    refine ⟨us, h1, h2, fun k b hk => ?_⟩
    obtain ⟨u, h4, h5⟩ := h3 k b hk
    exact ⟨u, h4, hx b (List.mem_of_getElem? hk), h5.2⟩
theorem Rel.shrink {E : Env} {σ : St} {μ : Map} {a : Act} {w : World} {L extra : List V} (h : Rel E σ μ a w) (hbx : σ.bx = L ++ extra) (hL : ∀ x ∈ L, ∀ y ∈ x.cells, y.below L.length) (htm : ∀ x ∈ σ.tm, x.below L.length) (hgh : ∀ x ∈ σ.gh, x.below L.length) (hfx : σ.fx = []) : Rel E { σ with bx := L } μ a w := by
  have hle : L.length ≤ σ.bx.length := by rw [hbx]; simp
  have hown : ∀ b, Own μ { σ with bx := L } b → Own μ σ b := by
    rintro b (⟨i, hi, e⟩ | ⟨r, row, sh, hr, hm⟩)
    · exact .inl ⟨i, Nat.lt_of_lt_of_le hi hle, e⟩
    · exact .inr ⟨r, row, sh, hr, hm⟩
  refine ⟨h.stp, fun b hb => h.own b (hown b hb), ⟨fun i k hi hk => h.mem.bb i k (Nat.lt_of_lt_of_le hi hle) (Nat.lt_of_lt_of_le hk hle), fun i r row sh hi => h.mem.br i r row sh (Nat.lt_of_lt_of_le hi hle), h.mem.rr, fun i x hx => ?_, fun r row hr => ?_⟩,
    ⟨h.tm.1, fun k x u hx hu => (h.tm.2 k x u hx hu).shrink hle (htm x (List.mem_of_getElem? hx))⟩, h.marks, ⟨h.gh.1, fun k x u hx hu => (h.gh.2 k x u hx hu).shrink hle (hgh x (List.mem_of_getElem? hx))⟩, h.pin, fun v x hx => by rw [hfx] at hx; cases hx⟩
  · have hx : L[i]? = some x := hx
    have hlt : i < L.length := (List.getElem?_eq_some_iff.1 hx).1
    obtain ⟨C, et, h1, h2, h3⟩ := h.mem.box i x (by rw [hbx, List.getElem?_append_left hlt]; exact hx)
    exact ⟨C, et, h1, h2, fun k y u hy hu => (h3 k y u hy hu).shrink hle (hL x (List.mem_of_getElem? hx) y (List.mem_of_getElem? hy))⟩
  · have hr' := h.mem.row r row hr
    cases hm : μ.r r with
    | none => rw [hm] at hr'; exact hr'
    | some p =>
      obtain ⟨b, sh⟩ := p
      rw [hm] at hr'
      obtain ⟨k0, k1, C, et, k2, k3, k4⟩ := hr'
      exact ⟨k0, k1, C, et, k2, k3, fun i k x y u hx hy hu => (k4 i k x y u hx hy hu).mono fun b hb => ⟨⟨hb.1, hb.2.1, fun ho => hb.2.2 (hown b ho)⟩, .inl rfl⟩⟩
/-- The boxes that a lent run made of its own are forgotten. -/
theorem FnM.shrink {f : FuncId} {vs bx : List V} {rw : List (Option Row)} {gh : List V} {Kf Kf' : D → List V → List (Option Row) → List V → Prop} (h : FnM P f vs bx rw gh Kf')
    (hs : ∀ d bx' rw' gh', Kf' d bx' rw' gh' → gh' = gh ∧ ∃ L extra, bx' = L ++ extra ∧ L.length = bx.length ∧ (∀ x ∈ L, ∀ y ∈ x.cells, y.below L.length) ∧ Kf d L rw' gh) : FnM P f vs bx rw gh Kf := by
  refine ⟨h.1, fun E μ us w h0 h1 h2 hr => (h.2 E μ us w h0 h1 h2 hr).mono ?_⟩
  rintro e w' ⟨v, d, bx', rw', gh', μ', g1, g2, g3, g4⟩
  obtain ⟨rfl, L, extra, rfl, hl, hL, hK⟩ := hs _ _ _ _ g2
  have hb : ∀ x ∈ gh', x.below L.length := by
    intro x hx
    obtain ⟨k, hk, rfl⟩ := List.mem_iff_getElem.1 hx
    have hlen : E.gh.length = gh'.length := hr.gh.1
    have := hr.gh.2 k _ (E.gh[k]'(by rw [hlen]; exact hk)) (List.getElem?_eq_getElem hk) (List.getElem?_eq_getElem (by rw [hlen]; exact hk))
    rw [hl]
    generalize gh'[k] = x at this
    cases x with
    | p b sub => exact this.1
    | fp fn ps =>
      obtain ⟨_, _, _, h3⟩ := this
      intro b hb
      obtain ⟨i, hi, rfl⟩ := List.mem_iff_getElem.1 hb
      obtain ⟨_, _, h5⟩ := h3 i _ (List.getElem?_eq_getElem hi)
      exact h5.1
    | _ => trivial
  exact ⟨v, d, L, rw', gh', μ', g1, hK, g3, g4.shrink (σ := ⟨[], L ++ extra, rw', gh', []⟩) rfl hL (by simp) hb rfl⟩
theorem FnM.go {f : FuncId} {fn : Func} {c : Code} {vs bx : List V} {rw : List (Option Row)} {gh : List V} {Kf : D → List V → List (Option Row) → List V → Prop} {rvs : List ResultVar} {n : Nat} (hf : P.funcs[f]? = some fn) (hb : fn.body = some c) (hname : (fn.name == "runtime.NumGoroutine") = false) (hr : fn.results = rvs.toArray) (hn : fn.ntmps = n)
    (h : aw P c (QretM P rvs Kf) ⟨vs ++ List.replicate (n - vs.length) .j, bx, rw, gh, []⟩) : FnM P f vs bx rw gh Kf := by
  subst hn
  have e : rvs = fn.results.toList := by rw [hr]
  subst e
  exact FnM.of hf hb hname h
/-- Slots alone are forgotten. -/
def TmLe : List V → List V → Prop
  | [], [] => True
  | x :: xs, y :: ys => (x = .j ∨ y = x) ∧ TmLe xs ys
  | _, _ => False
theorem tmLe_nil : TmLe [] [] = True := rfl
theorem tmLe_j (y : V) (xs ys : List V) : TmLe (.j :: xs) (y :: ys) = TmLe xs ys := by simp [TmLe]
theorem tmLe_s (x : V) (xs ys : List V) : TmLe (x :: xs) (x :: ys) = TmLe xs ys := by simp [TmLe]
theorem TmLe.wkn {tm tm' bx : List V} {rw : List (Option Row)} {gh : List V} {fx : List (Value × V)} (h : TmLe tm' tm) : Wkn ⟨tm, bx, rw, gh, fx⟩ ⟨tm', bx, rw, gh, fx⟩ := by
  have key : ∀ (xs ys : List V), TmLe xs ys → xs.length = ys.length ∧ ∀ (k : Nat) (x : V), xs[k]? = some x → x = .j ∨ ys[k]? = some x := by
    intro xs
    induction xs with
    | nil => intro ys h; cases ys with
      | nil => exact ⟨rfl, fun k x hx => by simp at hx⟩
      | cons y ys => exact h.elim
    | cons x xs ih => intro ys h; cases ys with
      | nil => exact h.elim
      | cons y ys =>
        obtain ⟨h1, h2⟩ := h
        obtain ⟨h3, h4⟩ := ih ys h2
        refine ⟨by simp [h3], fun k z hz => ?_⟩
        cases k with
        | zero => simp at hz; subst hz; exact h1.imp id fun e => by simp [e]
        | succ k => exact h4 k z (by simpa using hz)
  obtain ⟨h1, h2⟩ := key _ _ h
  exact Wkn.tm h1 h2
theorem callM2 {o : Oper} {σ : St} {K : St → Prop} {fo : Operand} {args : List Operand} {ts : Array TypeId} {f : FuncId} {ps : List Nat} {VS BX : List V} {RW : List (Option Row)} {Kf : List V → D → List V → List (Option Row) → List V → Prop}
    (h : ∀ gh, FnM P f VS BX RW gh (Kf gh)) (ho : o.op = .call { callee := .value fo, args := args.toArray, argTypes := ts })
    (hfo : σ.eval fo = .fp (.func f) ps) (hvs : args.map σ.eval ++ (ps.map fun b => V.p b 0) = VS) (hbx : σ.bx = BX) (hrw : σ.rw = RW)
    (hK : ∀ d bx' rw' gh', Kf (σ.tm ++ σ.gh) d bx' rw' gh' → D.flat d = true ∧ K (St.put { tm := gh'.take σ.tm.length, bx := bx', rw := rw', gh := gh'.drop σ.tm.length } o.dst (.d d))) : Loud P o σ K := by
  subst hvs hbx hrw
  exact callM ho hfo (h _) hK
end Go.Aw

namespace Go.Aw
open Go.RowKit
variable {P : Program}

/-- A call by name that lends all that is owned. -/
theorem callMF {o : Oper} {σ : St} {K : St → Prop} {fo : Operand} {args : List Operand} {ts : Array TypeId} {f : FuncId} {ps : List Nat} {Kf : D → List V → List (Option Row) → List V → Prop} (ho : o.op = .call { callee := .value fo, args := args.toArray, argTypes := ts })
    (hfo : σ.eval fo = .d (.f (.func f) [])) (hps0 : ps = []) (h : FnM P f (args.map σ.eval ++ ps.map fun b => .p b 0) σ.bx σ.rw (σ.tm ++ σ.gh) Kf)
    (hK : ∀ d bx' rw' gh', Kf d bx' rw' gh' → D.flat d = true ∧ K (St.put { tm := gh'.take σ.tm.length, bx := bx', rw := rw', gh := gh'.drop σ.tm.length } o.dst (.d d))) : Loud P o σ K := by
  rintro E a w K' Q he ⟨μ, hr⟩ hk
  have hv := hr.eval fo
  rw [hfo] at hv
  obtain ⟨us, hfn, hps, hcap⟩ : ∃ us : Array Value, a.eval fo = .func (.func f) #[] us ∧ us.size = ps.length ∧ ∀ (k b : Nat), ps[k]? = some b → ∃ u, us[k]? = some u ∧ RelP μ σ b 0 u := by
    subst hps0
    have hv' : RelD w (Fz E w μ σ) (.f (.func f) []) (a.eval fo) := hv
    generalize a.eval fo = vf at hv'
    cases hv' with
    | f _ _ us hl hr => exact ⟨us, rfl, by simpa using hl, fun k b hb => by simp at hb⟩
  have hTl : a.tmps.toList.length = σ.tm.length := by rw [Array.length_toList]; exact hr.tm.1
  let E' : Env := { w0 := w, N := Fz E w μ σ, Ow := Own μ σ, gh := a.tmps.toList ++ E.gh }
  have hr1 : Rel E' ⟨args.map σ.eval ++ ps.map fun b => .p b 0, σ.bx, σ.rw, σ.tm ++ σ.gh, []⟩ μ ⟨(args.map a.eval ++ us.toList).toArray, []⟩ w := by
    refine hr.move (E' := E') rfl rfl (fun _ => .inl rfl) (Nat.le_refl _) (fun b hb => .inl hb) (Stp.refl _ w) (fun b hb => .inr hb) ⟨[], rfl, by simp, by simp⟩ (fun l o h => h.elim) ⟨by simp [hps], fun k x u hx hu => ?_⟩ ⟨?_, fun k x u hx hu => ?_⟩ (fun v x hx => by cases hx)
    · have hu : (args.map a.eval ++ us.toList)[k]? = some u := by simpa using hu
      by_cases hk' : k < args.length
      · rw [List.getElem?_append_left (by simpa using hk'), List.getElem?_map, List.getElem?_eq_getElem hk'] at hx hu
        cases hx; cases hu
        exact hr.eval _
      · rw [List.getElem?_append_right (by simpa using hk'), List.length_map] at hx hu
        rw [List.getElem?_map] at hx
        cases hb : ps[k - args.length]? with
        | none => rw [hb] at hx; cases hx
        | some b =>
          rw [hb] at hx
          cases hx
          obtain ⟨u', h1, h2⟩ := hcap _ b hb
          rw [Array.getElem?_toList, h1] at hu
          cases hu
          exact h2
    · show (a.tmps.toList ++ E.gh).length = (σ.tm ++ σ.gh).length
      rw [List.length_append, List.length_append, hTl, hr.gh.1]
    · replace hu : (a.tmps.toList ++ E.gh)[k]? = some u := hu
      replace hx : (σ.tm ++ σ.gh)[k]? = some x := hx
      by_cases hk' : k < σ.tm.length
      · rw [List.getElem?_append_left hk'] at hx
        rw [List.getElem?_append_left (by rw [hTl]; exact hk'), Array.getElem?_toList] at hu
        exact hr.tm.2 k x u hx hu
      · rw [List.getElem?_append_right (by omega)] at hx
        rw [List.getElem?_append_right (by rw [hTl]; omega), hTl] at hu
        exact hr.gh.2 (k - σ.tm.length) x u hx hu
  have hcall := h.2 E' μ (args.map a.eval ++ us.toList) w ⟨he.gl hr, fun g hg => he.own hr hg⟩ rfl (fun _ _ h => h) hr1
  have e : (args.map a.eval ++ us.toList).toArray = args.toArray.map a.eval ++ us := by apply Array.ext'; simp
  rw [e] at hcall
  refine wpIn_call (ro := E.ro) ho hfn h.1 hcall (fun e w' ⟨v, d, bx', rw', gh', μ', h1, h2, h3, h4⟩ => ⟨v, h1, ?_⟩)
  obtain ⟨hf, hK'⟩ := hK d bx' rw' gh' h2
  have hgl : gh'.length = σ.tm.length + E.gh.length := by
    have := h4.gh.1
    rw [show E'.gh = a.tmps.toList ++ E.gh from rfl, List.length_append, hTl] at this
    exact this.symm
  have hkept : ∀ (k : Nat) (ob : Obj), w.heap[k]? = some ob → ob.isCells = false → w'.heap[k]? = some ob := fun k ob hk ho => by
    have hlt := (Array.getElem?_eq_some_iff.1 hk).1
    exact (h4.stp.block k hlt (notCells_own hr hk ho)).trans hk
  have hb : Rel E { tm := gh'.take σ.tm.length, bx := bx', rw := rw', gh := gh'.drop σ.tm.length } μ' a w' := by
    refine h4.move rfl rfl (fun _ => .inl rfl) (Nat.le_refl _) (fun b hb => ?_) ?_ (fun b hb => ?_) ?_ (hr.pin.keep hkept) ⟨?_, fun k x u hx hu => ?_⟩ ⟨?_, fun k x u hx hu => ?_⟩ (fun v x hx => by cases hx)
    · rcases hb.1 with h' | h' | h'
      · exact h'.1
      · exact .inr (.inl (Nat.le_trans hr.stp.size h'))
      · exact .inr (hr.own b h')
    · exact hr.stp.trans h4.stp (fun b hb => (hr.own b hb).symm)
    · rcases h4.own b hb with h' | h'
      · exact .inl (Nat.le_trans hr.stp.size h')
      · exact hr.own b h'
    · obtain ⟨ds, d1, d2, d3⟩ := hr.marks
      exact ⟨ds, d1, d2, fun r hr => ⟨(d3 r hr).1, hkept r _ (d3 r hr).2 rfl⟩⟩
    · show a.tmps.size = (gh'.take σ.tm.length).length
      rw [List.length_take]
      have := hr.tm.1
      omega
    · have hk' : k < σ.tm.length := by
        have := (List.getElem?_eq_some_iff.1 hx).1
        simp at this; omega
      rw [List.getElem?_take_of_lt hk'] at hx
      exact h4.gh.2 k x u hx (by show (a.tmps.toList ++ E.gh)[k]? = some u; rw [List.getElem?_append_left (by rw [hTl]; exact hk'), Array.getElem?_toList]; exact hu)
    · show E.gh.length = (gh'.drop σ.tm.length).length
      rw [List.length_drop]; omega
    · rw [List.getElem?_drop] at hx
      refine h4.gh.2 (σ.tm.length + k) x u hx ?_
      show (a.tmps.toList ++ E.gh)[σ.tm.length + k]? = some u
      rw [List.getElem?_append_right (by rw [hTl]; omega), hTl, Nat.add_sub_cancel_left]
      exact hu
  exact hk _ _ _ hK' ⟨μ', hb.put o.dst (flat_rel hf h3)⟩
theorem callM3 {o : Oper} {σ : St} {K : St → Prop} {fo : Operand} {args : List Operand} {ts : Array TypeId} {f : FuncId} {VS BX : List V} {RW : List (Option Row)} {Kf : List V → D → List V → List (Option Row) → List V → Prop}
    (h : ∀ gh, FnM P f VS BX RW gh (Kf gh)) (ho : o.op = .call { callee := .value fo, args := args.toArray, argTypes := ts })
    (hfo : σ.eval fo = .d (.f (.func f) [])) (hvs : args.map σ.eval = VS) (hbx : σ.bx = BX) (hrw : σ.rw = RW)
    (hK : ∀ d bx' rw' gh', Kf (σ.tm ++ σ.gh) d bx' rw' gh' → D.flat d = true ∧ K (St.put { tm := gh'.take σ.tm.length, bx := bx', rw := rw', gh := gh'.drop σ.tm.length } o.dst (.d d))) : Loud P o σ K := by
  subst hvs hbx hrw
  exact callMF (ps := []) ho hfo rfl (by rw [List.map_nil, List.append_nil]; exact h _) hK
end Go.Aw
