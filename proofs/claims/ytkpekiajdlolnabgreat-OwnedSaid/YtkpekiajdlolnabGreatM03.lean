/-
  PROVED IN PARTS: text 3 of 10 of the carrying ground of the claim (see each part's own remark). Conditions: those that each theorem names.
-/
import Derived.Test.YtkpekiajdlolnabGreatM02
import Derived.Conc.Beside
import Derived.Conc.CrowdTrace
import Derived.Conc.WgGenN3
import Derived.Conc.CrowdStepW
import Derived.Conc.CrowdStepC2
set_option linter.unusedVariables false
set_option linter.unusedSimpArgs false

/-
  THE SIMULATION, seventeenth text: A GOROUTINE IN COMPANY, told without a number: 'WG': whatever the others do outside its footprint F, it goes on, step by step, to a state in which Stop holds; it writes only what is its own (O) and what it makes. 'sim_go': what the lone run must come to, the run in company comes to.
-/
namespace Go.Proofs.YtkpekiajdlolnabGreat.Sim
open Go Go.Conc

abbrev Blocks := Nat → Prop
/-- what the others may do: they leave the blocks in F. -/
structure Ext (F : Blocks) (w w1 : World) : Prop where
  size : w.heap.size ≤ w1.heap.size
  keep : ∀ b, F b → w1.heap[b]? = w.heap[b]?
theorem Ext.refl (F : Blocks) (w : World) : Ext F w w := ⟨Nat.le_refl _, fun _ _ => rfl⟩
theorem Ext.trans {F : Blocks} {a b c : World} (h : Ext F a b) (k : Ext F b c) : Ext F a c := ⟨Nat.le_trans h.size k.size, fun x hx => (k.keep x hx).trans (h.keep x hx)⟩
theorem Ext.sub {F F' : Blocks} {a b : World} (h : Ext F a b) (hs : ∀ x, F' x → F x) : Ext F' a b := ⟨h.size, fun x hx => h.keep x (hs x hx)⟩

/-- what it may list. -/
def EvF (F O : Blocks) (e : Event) : Prop :=
  match e.loc with
  | .cell a => e.sync = false ∧ F a.block ∧ (e.write = true → O a.block)
  | .obj r => e.sync = false ∧ F r ∧ (e.write = true → O r)
  | .mark .noRoom => True
  | _ => False
structure StepOK (F O : Blocks) (w : World) (F' O' : Blocks) (w' : World) (es : Array Event) : Prop where
  sub : ∀ b, F b → F' b
  subO : ∀ b, O b → O' b
  new : ∀ b, F' b → F b ∨ w.heap.size ≤ b
  newO : ∀ b, O' b → O b ∨ w.heap.size ≤ b
  own : ∀ b, O' b → F' b
  keep : ∀ b, b < w.heap.size → ¬ O b → w'.heap[b]? = w.heap[b]?
  size : w.heap.size ≤ w'.heap.size
  low : ∀ b, F' b → b < w'.heap.size
  drawn : ∃ d, w'.drawn = w.drawn + d
  tape : w'.tape = w.tape
  os : w'.os = w.os
  output : w'.output = w.output
  ev : ∀ e ∈ es, EvF F' O' e
  nb : NB w → NB w'

inductive Rank where
  | leaf
  | node (f : World → Rank)
def Rank.sub : Rank → Rank → Prop
  | r, .node f => ∃ w, r = f w
  | _, .leaf => False
theorem Rank.wf : WellFounded Rank.sub := ⟨fun r => by
  induction r with
  | leaf => exact ⟨_, fun y h => h.elim⟩
  | node f ih => exact ⟨_, fun y ⟨w, e⟩ => e ▸ ih w⟩⟩

section
variable (P : Program) (main : Bool) (Stop : Blocks → Blocks → Goroutine → World → Prop)
def WGo : Rank → Blocks → Blocks → Goroutine → World → Prop
  | .leaf, F, O, g, w => ∀ w1, Ext F w w1 → Stop F O g w1
  | .node f, F, O, g, w => g.status = .running ∧ ∀ w1, Ext F w w1 → ∃ F' O' g' w' es, stepG P main g w1 = .go g' w' es ∧ StepOK F O w1 F' O' w' es ∧ WGo (f w1) F' O' g' w'
def WG (F O : Blocks) (g : Goroutine) (w : World) : Prop := ∃ r, WGo P main Stop r F O g w
end

section
variable {P : Program} {main : Bool} {Stop Stop' : Blocks → Blocks → Goroutine → World → Prop} {F O : Blocks} {g : Goroutine} {w : World}
theorem WGo.ext {r : Rank} {w1 : World} (h : WGo P main Stop r F O g w) (e : Ext F w w1) : WGo P main Stop r F O g w1 := by
  cases r with
  | leaf => exact fun w2 e2 => h w2 (e.trans e2)
  | node f => exact ⟨h.1, fun w2 e2 => h.2 w2 (e.trans e2)⟩
theorem WG.stop (h : ∀ w1, Ext F w w1 → Stop F O g w1) : WG P main Stop F O g w := ⟨.leaf, h⟩
theorem WG.step (hr : g.status = .running) (h : ∀ w1, Ext F w w1 → ∃ F' O' g' w' es, stepG P main g w1 = .go g' w' es ∧ StepOK F O w1 F' O' w' es ∧ WG P main Stop F' O' g' w') : WG P main Stop F O g w := by
  classical
  have h' : ∀ w1, Ext F w w1 → ∃ r F' O' g' w' es, stepG P main g w1 = .go g' w' es ∧ StepOK F O w1 F' O' w' es ∧ WGo P main Stop r F' O' g' w' := fun w1 e => by
    obtain ⟨F', O', g', w', es, h1, h2, r, h3⟩ := h w1 e
    exact ⟨r, F', O', g', w', es, h1, h2, h3⟩
  refine ⟨.node fun w1 => if e : Ext F w w1 then (h' w1 e).choose else .leaf, hr, fun w1 e => ?_⟩
  have er : (if e : Ext F w w1 then (h' w1 e).choose else Rank.leaf) = (h' w1 e).choose := dif_pos e
  show ∃ F' O' g' w' es, _ ∧ _ ∧ WGo P main Stop (if e : Ext F w w1 then (h' w1 e).choose else Rank.leaf) F' O' g' w'
  rw [er]
  exact (h' w1 e).choose_spec
theorem WG.ext {w1 : World} (h : WG P main Stop F O g w) (e : Ext F w w1) : WG P main Stop F O g w1 := let ⟨r, h⟩ := h; ⟨r, h.ext e⟩
/-- at a stop it goes on. -/
theorem WG.then (h : WG P main Stop F O g w) (k : ∀ F O g w, Stop F O g w → WG P main Stop' F O g w) : WG P main Stop' F O g w := by
  obtain ⟨r, h⟩ := h
  induction r generalizing F O g w with
  | leaf => exact k _ _ _ _ (h w (Ext.refl ..))
  | node f ih =>
    refine WG.step h.1 fun w1 e => ?_
    obtain ⟨F', O', g', w', es, h1, h2, h3⟩ := h.2 w1 e
    exact ⟨F', O', g', w', es, h1, h2, ih w1 h3⟩
end

section
variable {X : Cx} {Fb : FuncId → Bool} {wr : Bool} {sp : FuncId → Bool}

/-- the two worlds, but for what the tape will say. -/
def WN (X : Cx) (ρ : Rel) (w w' : World) : Prop := ∃ τ, Agree w τ ∧ WR X ρ (re w τ) w'
def rng (ρ : Rel) : Blocks := fun b => ∃ a, ρ a b
def own (X : Cx) (ρ : Rel) : Blocks := fun b => ∃ a, ρ a b ∧ ¬ X.Sh a
theorem WN.of {ρ : Rel} {w w' : World} (h : WR X ρ w w') : WN X ρ w w' := ⟨w.tape, fun _ _ _ => rfl, h⟩
theorem WN.ext {ρ : Rel} {w w' w1 : World} (h : WN X ρ w w') (e : Ext (rng ρ) w' w1) : WN X ρ w w1 := by
  obtain ⟨τ, h1, h2⟩ := h
  refine ⟨fun i q => if i < w.drawn then w.tape i q else w1.tape (w1.drawn + (i - w.drawn)) q, fun i q hi => if_pos hi, h2.fn, h2.inj, fun {a b} hab => ?_, fun i q => ?_, h2.sh⟩
  · obtain ⟨o, o', k1, k2, k3⟩ := h2.heap hab
    exact ⟨o, o', k1, (e.keep b ⟨a, hab⟩).trans k2, k3⟩
  · show (if w.drawn + i < w.drawn then _ else _) = _
    have e1 : (re w fun i q => if i < w.drawn then w.tape i q else w1.tape (w1.drawn + (i - w.drawn)) q).drawn = w.drawn := rfl
    rw [e1, if_neg (by omega)]
    congr 1
    omega

theorem stepOK_of {ρ ρ1 : Rel} {w w' w1 w1' : World} {es : Array Event} (hw : WR X ρ w w') (h : Eff X ρ ρ1 w' w1' w) (h1 : WR X ρ1 w1 w1') (hev : ∀ e ∈ es, EvOK X ρ1 e) : StepOK (rng ρ) (own X ρ) w' (rng ρ1) (own X ρ1) w1' es := by
  refine ⟨fun b ⟨a, hab⟩ => ⟨a, h.le _ _ hab⟩, fun b ⟨a, hab, hn⟩ => ⟨a, h.le _ _ hab, hn⟩, fun b ⟨a, hab⟩ => ?_, fun b ⟨a, hab, hn⟩ => ?_, fun b ⟨a, hab, _⟩ => ⟨a, hab⟩, fun b hb hn => h.keep b hb fun a hab => Classical.byContradiction fun hs => hn ⟨a, hab, hs⟩, h.size, fun b ⟨a, hab⟩ => (h1.bound hab).2, h.drawn, h.tape, h.os, h.output, fun e he => ?_, fun _ => trivial⟩
  · exact (h.new a b hab).imp (fun x => ⟨a, x⟩) (·.2)
  · exact (h.new a b hab).imp (fun x => ⟨a, x, hn⟩) (·.2)
  · have := hev e he
    obtain ⟨loc, wt, sy⟩ := e
    cases loc with
    | cell a => exact ⟨this.1, let ⟨b, x, _⟩ := this.2; ⟨b, x⟩, fun hw => let ⟨b, x, y⟩ := this.2; ⟨b, x, y hw⟩⟩
    | obj r => exact ⟨this.1, let ⟨b, x, _⟩ := this.2; ⟨b, x⟩, fun hw => let ⟨b, x, y⟩ := this.2; ⟨b, x, y hw⟩⟩
    | mark m => cases m <;> first | trivial | exact this.elim
    | _ => exact this.elim

/-- where the run in company stops: the lone one has come to Q; or a function with two bodies is entered. -/
inductive SStop (X : Cx) (Fb : FuncId → Bool) (wr : Bool) (sp : FuncId → Bool) (base' : List Frame) (Q : Frame → List Frame → World → Prop) : Blocks → Blocks → Goroutine → World → Prop
  | done {ρ : Rel} {fr fr' : Frame} {up up' : List Frame} {w w' : World} : FR X Fb wr ρ fr fr' → FsR X Fb wr ρ up up' → WN X ρ w w' → NB w → Bot (fr :: up) → Q fr (up ++ [c0]) w → SStop X Fb wr sp base' Q (rng ρ) (own X ρ) (G fr' (up' ++ base')) w'
  | special {ρ : Rel} {fr fr' : Frame} {up up' : List Frame} {f : FuncId} {ars ars' : Array Value} {w w' : World} : X.F f → sp f = true → VsR X.F ρ ars.toList ars'.toList → FR X Fb wr ρ fr fr' → FsR X Fb wr ρ up up' → WN X ρ w w' → NB w → Bot (fr :: up) →
      LMust X.P Q (Frame.enter X.P f ars .normal) (fr :: up ++ [c0]) w → SStop X Fb wr sp base' Q (rng ρ) (own X ρ) (G (Frame.enter X.P' f ars' .normal) (fr' :: up' ++ base')) w'

theorem end_panics (S : X.Set Fb wr sp) {ρ : Rel} {fr fr' : Frame} {w w' : World} (hf : FR X Fb wr ρ fr fr') (hw : WR X ρ w w') (hn : NB w) (hgo : ¬ (fr.mode = .run ∨ fr.defers ≠ [])) {fr1 : Frame} {cs1 : List Frame} {w1 : World} {es : Array Event}
    (hs : stepG X.P true (G fr [c0]) w = .go (G fr1 cs1) w1 es) : NB w1 ∧ Panicky fr1 cs1 w1 := by
  obtain ⟨fn, tmps, todo, defers, mode, kind, ro⟩ := fr
  obtain rfl : kind = .normal := hf.kind
  have hd : defers = [] := Classical.byContradiction fun h => hgo (.inr h)
  have hm : mode = .returning := hf.run.resolve_left fun h => hgo (.inl h)
  subst hd; subst hm
  rw [stepG_ret _ _ _ _ _ rfl] at hs
  obtain ⟨f, q1, q2⟩ := hf.same
  have q1 : X.P.funcs[fn]? = some f := q1
  unfold unwind at hs
  dsimp only at hs
  rw [q1] at hs
  dsimp only at hs
  rcases hr : (results f tmps).runT X.P w #[] with ⟨r0, es0⟩
  rw [hr] at hs
  cases r0 with
  | halt h wx => cases h <;> cases hs
  | ok v wx =>
    obtain ⟨ρ1, v', w1', es1, h1, h2, h3, h4, h5, h6, h7⟩ := res_ok (SS.results S.ok hf.tmps) hw hr
    cases hs
    exact ⟨trivial, ⟨[], rfl⟩, .inr ⟨_, [], rfl, rfl⟩⟩

/-- ████ WHAT THE LONE RUN MUST COME TO, THE RUN IN COMPANY COMES TO. ████ -/
theorem sim_go (S : X.Set Fb wr sp) (main : Bool) (base' : List Frame) {Q : Frame → List Frame → World → Prop} (hQ : ∀ fr cs w, Q fr cs w → ∀ ch, fr.mode ≠ .panicking ch) : ∀ {fr : Frame} {cs : List Frame} {w : World}, LMust X.P Q fr cs w →
    ∀ {ρ : Rel} {fr' : Frame} {up up' : List Frame} {w' : World}, cs = up ++ [c0] → FR X Fb wr ρ fr fr' → FsR X Fb wr ρ up up' → WN X ρ w w' → NB w → Bot (fr :: up) →
      WG X.P' main (SStop X Fb wr sp base' Q) (rng ρ) (own X ρ) (G fr' (up' ++ base')) w' := by
  intro fr cs w h
  induction h with
  | done hq =>
    rintro ρ fr' up up' w' rfl hf hu hw hn hB
    exact WG.stop fun w1 e => .done hf hu (hw.ext e) hn hB hq
  | @step fr cs w nf nc nw ne hs hm ih =>
    rintro ρ fr' up up' w' rfl hf hu hw hn hB
    refine WG.step rfl fun w1 e => ?_
    obtain ⟨τ, ha, hw⟩ := hw.ext e
    have hs := hs τ ha
    have hm := hm τ ha
    have ih := @ih τ ha
    have hs : stepG X.P true (G fr (up ++ [c0])) (re w τ) = _ := hs
    by_cases hgo : fr.mode = .run ∨ fr.defers ≠ [] ∨ up ≠ []
    · have out := sim_step S (base := [c0]) (base' := base') hf hu hw hn hB hgo true main
      rw [hs] at out
      generalize nf τ = fr1, nc τ = cs1, nw τ = w1l, ne τ = es1 at *
      generalize hg : GStep.go (G fr1 cs1) w1l es1 = s at out
      cases out with
      | nice e h1 h2 h3 h4 h5 h6 h7 h8 =>
        cases hg
        exact ⟨_, _, _, _, _, e, stepOK_of hw h4 h3 h6, ih rfl h1 h2 (WN.of h3) h7 h8⟩
      | special k1 k2 e h0 h1 h2 h3 h4 h5 h6 h7 h8 =>
        cases hg
        exact ⟨_, _, _, _, _, e, stepOK_of hw h4 h3 h6, WG.stop fun w2 e2 => .special k1 k2 h0 h1 h2 ((WN.of h3).ext e2) h7 h8 hm⟩
      | panic h1 h2 =>
        cases hg
        exact (must_no_panic hQ hm trivial ⟨_, rfl⟩ (.inl ⟨_, rfl, h1, h2⟩)).elim
      | ended => cases hg
    · have hup : up = [] := Classical.byContradiction fun h => hgo (.inr (.inr h))
      subst hup
      obtain ⟨h1, h2, h3⟩ := end_panics S hf hw hn (fun h => hgo (h.imp id .inl)) hs
      exact (must_no_panic hQ hm h1 h2 h3).elim
end

end Go.Proofs.YtkpekiajdlolnabGreat.Sim

/-
  THE PHASE, first text: GOROUTINE 0's STRETCH BESIDE LEAVERS, told without a number ('WG'): the machine carries it out, on whatever tape.
-/
namespace Go.Proofs.YtkpekiajdlolnabGreat.Ph
open Go Go.Conc Go.Proofs.YtkpekiajdlolnabGreat.Sim
open Go.ConcN (sumTo upd sumTo_upd upd_ne upd_same)

/-- every place that the operation touches lies in a block below B. -/
def LowT (B : Nat) (x : MemAct) : Prop := ∀ y, x.touch? = some y → y.loc.low B
theorem lowT_of {B : Nat} {x : MemAct} (h : x.low B) : LowT B x := by
  intro y hy
  cases x with
  | access e => simp only [MemAct.touch?, Option.some.injEq] at hy; subst hy; exact h
  | mark m => cases m <;> first | (cases hy; done) | (simp only [MemAct.touch?, Option.some.injEq] at hy; subst hy; exact h)
  | _ => cases hy
theorem LowT.mono {B B' : Nat} (h : B ≤ B') {x : MemAct} (hx : LowT B x) : LowT B' x := fun y hy => Loc.low_mono h (hx y hy)
theorem seenT_app {B : Nat} {t u : Trace} (h : ∀ op ∈ t, LowT B op.act) (hu : ∀ op ∈ u, LowT B op.act) : ∀ op ∈ t ++ u, LowT B op.act := fun op hop => (Array.mem_append.1 hop).elim (h op) (hu op)
theorem low_some (x : MemAct) : ∃ B, x.low B := by
  cases x with
  | access e =>
    obtain ⟨l, wt, sy⟩ := e
    cases l with
    | cell a => exact ⟨a.block + 1, Nat.lt_succ_self _⟩
    | obj r => exact ⟨r + 1, Nat.lt_succ_self _⟩
    | _ => exact ⟨0, trivial⟩
  | mark m =>
    cases m with
    | acquire a | release a | releaseMerge a | read a | write a => exact ⟨a.block + 1, Nat.lt_succ_self _⟩
    | _ => exact ⟨0, trivial⟩
  | go _ | start => exact ⟨0, trivial⟩
  | send c _ | sendDone c _ | recv c _ _ | recvDone c _ | close c | recvClosed c => exact ⟨c + 1, Nat.lt_succ_self _⟩
theorem low_all (t : Trace) : ∃ B, ∀ op ∈ t, op.act.low B := by
  obtain ⟨l⟩ := t
  induction l with
  | nil => exact ⟨0, by simp⟩
  | cons x l ih =>
    obtain ⟨B, h⟩ := ih
    obtain ⟨B', h'⟩ := low_some x.act
    refine ⟨max B B', fun op hop => ?_⟩
    simp only [List.mem_toArray, List.mem_cons] at hop
    rcases hop with rfl | hop
    · exact MemAct.low_mono (Nat.le_max_right ..) h'
    · exact MemAct.low_mono (Nat.le_max_left ..) (h op (by simpa using hop))

/-- the places that nobody touches but atomically: the cells of blocks in SB. -/
def ShB (SB : Blocks) : Loc → Prop := fun l => ∃ a, l = .cell a ∧ SB a.block

/-- what is held of the trace between two phases. -/
structure PastW (SB : Blocks) (w : World) (n : Nat) (t : Trace) : Prop where
  past : ∃ B, Past (ShB SB) B t
  seen : ∀ op ∈ t, LowT w.heap.size op.act
  mem : ∀ i a, touchAt t i = some a → a.loc.isMemory = true
  quiet : Quiet (ShB SB) t
  gs : ∀ op ∈ t, op.g < n
structure FootOK (SB F O : Blocks) (w : World) : Prop where
  apart : ∀ b, F b → ¬ SB b
  low : ∀ b, SB b → b < w.heap.size
  own : ∀ b, O b → F b
  foot : ∀ b, F b → b < w.heap.size

theorem evL_of {SB F O : Blocks} {B : Nat} {e : Event} (h : EvF F O e) (ha : ∀ b, F b → ¬ SB b) (hB : ∀ b, F b → b < B) : EvL (ShB SB) B e := by
  obtain ⟨loc, wt, sy⟩ := e
  cases loc with
  | cell a =>
    obtain ⟨h1, h2, h3⟩ := h
    have h1 : sy = false := h1
    subst h1
    refine evL_cell a wt ?_ (hB _ h2)
    rintro ⟨a', e, hs⟩
    cases e
    exact ha _ h2 hs
  | obj r =>
    obtain ⟨h1, h2, h3⟩ := h
    have h1 : sy = false := h1
    subst h1
    have e0 : MemAct.ofEvent ⟨.obj r, wt, false⟩ = .access ⟨.obj r, wt, false⟩ := by cases wt <;> rfl
    refine ⟨fun x hx hs => ?_, by simp, by simp, by rw [e0]; exact hB _ h2⟩
    obtain ⟨a', e, hs⟩ := hs
    rw [e0] at hx
    simp only [MemAct.touch?, Option.some.injEq] at hx
    subst hx
    cases e
  | mark m =>
    cases m with
    | noRoom => exact ⟨fun x hx => by simp [MemAct.ofEvent, MemAct.touch?] at hx, by simp, by simp, trivial⟩
    | _ => exact h.elim
  | _ => exact h.elim

theorem mem_app {t u : Trace} (h : ∀ i a, touchAt t i = some a → a.loc.isMemory = true) (hu : ∀ op ∈ u, ∀ x, op.act.touch? = some x → x.loc.isMemory = true) : ∀ i a, touchAt (t ++ u) i = some a → a.loc.isMemory = true := by
  intro i a ha
  obtain ⟨op, hop, hox⟩ := touch_of ha
  rcases getElem?_append_cases hop with ⟨hi, hop'⟩ | ⟨_, hopu⟩
  · exact h i a (by rw [touchAt_of hop']; exact hox)
  · exact hu op hopu a hox
theorem evF_mem {F O : Blocks} {e : Event} (h : EvF F O e) {y : Touch} (hy : (MemAct.ofEvent e).touch? = some y) : y.loc.isMemory = true ∧ y.kind = .plain ∧ ((∃ a, y.loc = .cell a ∧ F a.block) ∨ ∃ r, y.loc = .obj r ∧ F r) := by
  obtain ⟨loc, wt, sy⟩ := e
  cases loc with
  | cell b =>
    obtain ⟨h1, h2, h3⟩ := h
    have h1 : sy = false := h1
    subst h1
    rw [ofEvent_cell0] at hy
    simp only [MemAct.touch?, Option.some.injEq] at hy
    subst hy
    exact ⟨rfl, rfl, .inl ⟨b, rfl, h2⟩⟩
  | obj r =>
    obtain ⟨h1, h2, h3⟩ := h
    have h1 : sy = false := h1
    subst h1
    have e0 : MemAct.ofEvent ⟨.obj r, wt, false⟩ = .access ⟨.obj r, wt, false⟩ := by cases wt <;> rfl
    rw [e0] at hy
    simp only [MemAct.touch?, Option.some.injEq] at hy
    subst hy
    exact ⟨rfl, rfl, .inr ⟨r, rfl, h2⟩⟩
  | mark m =>
    cases m with
    | noRoom => simp [MemAct.ofEvent, MemAct.touch?] at hy
    | _ => exact h.elim
  | _ => exact h.elim

theorem PastW.own {SB F O F' O' : Blocks} {w w' : World} {n : Nat} {t : Trace} (h : PastW SB w n t) (hn : 0 < n) {es : Array Event} (hok : StepOK F O w F' O' w' es) (hf : FootOK SB F' O' w') (fn : FuncId) (pos : String) :
    PastW SB w' n (t ++ MemOp.ofEvents 0 fn pos es) := by
  have hev : ∀ e ∈ es, EvL (ShB SB) w'.heap.size e := fun e he => evL_of (hok.ev e he) hf.apart hf.foot
  obtain ⟨B, hP⟩ := h.past
  refine ⟨⟨max B w'.heap.size, (hP.mono (Nat.le_max_left ..)).own fun e he => ?_⟩, seenT_app (fun op hop => (h.seen op hop).mono hok.size) (fun op hop => ?_), mem_app h.mem (fun op hop x hx => ?_), h.quiet.app fun op hop x hx hs => ?_, fun op hop => ?_⟩
  · have := hev e he
    exact ⟨this.1, this.2.1, this.2.2.1, MemAct.low_mono (Nat.le_max_right ..) this.2.2.2⟩
  · obtain ⟨e, he, rfl⟩ := Go.Conc.mem_ofEvents hop
    exact lowT_of (hev e he).2.2.2
  · obtain ⟨e, he, rfl⟩ := Go.Conc.mem_ofEvents hop
    exact (evF_mem (hok.ev e he) hx).1
  · obtain ⟨e, he, rfl⟩ := Go.Conc.mem_ofEvents hop
    have h1 := hev e he
    refine ⟨h1.1 x hx hs, fun _ => rfl⟩
  · rcases Array.mem_append.1 hop with h' | h'
    · exact h.gs op h'
    · obtain ⟨e, he, rfl⟩ := Go.Conc.mem_ofEvents h'
      exact hn
theorem PastW.mute {SB : Blocks} {w : World} {n : Nat} {t : Trace} (h : PastW SB w n t) {g : Nat} (hg : g ≠ 0) (hgn : g < n) {fn : FuncId} {pos : String} {es : Array Event} (hm : ∀ e ∈ es, e.mute = true) :
    PastW SB w n (t ++ MemOp.ofEvents g fn pos es) := by
  obtain ⟨B, hP⟩ := h.past
  refine ⟨⟨B, hP.mute hg hm⟩, seenT_app h.seen (fun op hop => ?_), mem_app h.mem (fun op hop x hx => ?_), h.quiet.app fun op hop x hx hs => ?_, fun op hop => ?_⟩
  · obtain ⟨e, he, rfl⟩ := Go.Conc.mem_ofEvents hop
    exact lowT_of (low_mute (hm e he) _)
  · obtain ⟨e, he, rfl⟩ := Go.Conc.mem_ofEvents hop
    rw [touch_mute (hm e he)] at hx; cases hx
  · obtain ⟨e, he, rfl⟩ := Go.Conc.mem_ofEvents hop
    rw [touch_mute (hm e he)] at hx
    cases hx
  · rcases Array.mem_append.1 hop with h' | h'
    · exact h.gs op h'
    · obtain ⟨e, he, rfl⟩ := Go.Conc.mem_ofEvents h'
      exact hgn
theorem FootOK.step {SB F O F' O' : Blocks} {w w' : World} (h : FootOK SB F O w) {es : Array Event} (hok : StepOK F O w F' O' w' es) : FootOK SB F' O' w' :=
  ⟨fun b hb hs => (hok.new b hb).elim (fun x => h.apart b x hs) (fun x => by have := h.low b hs; omega), fun b hb => Nat.lt_of_lt_of_le (h.low b hb) hok.size, hok.own, hok.low⟩

/-- what a stretch leaves. -/
structure Left (F O : Blocks) (w : World) (F' O' : Blocks) (w' : World) : Prop where
  sub : ∀ b, F b → F' b
  subO : ∀ b, O b → O' b
  new : ∀ b, F' b → F b ∨ w.heap.size ≤ b
  newO : ∀ b, O' b → O b ∨ w.heap.size ≤ b
  keep : ∀ b, b < w.heap.size → ¬ O b → w'.heap[b]? = w.heap[b]?
  size : w.heap.size ≤ w'.heap.size
  tape : w'.tape = w.tape
  os : w'.os = w.os
  output : w'.output = w.output
theorem Left.refl (F O : Blocks) (w : World) : Left F O w F O w := ⟨fun _ h => h, fun _ h => h, fun _ h => .inl h, fun _ h => .inl h, fun _ _ _ => rfl, Nat.le_refl _, rfl, rfl, rfl⟩
theorem Left.trans {F O F1 O1 F2 O2 : Blocks} {w w1 w2 : World} (h : Left F O w F1 O1 w1) (k : Left F1 O1 w1 F2 O2 w2) : Left F O w F2 O2 w2 := by
  refine ⟨fun b x => k.sub b (h.sub b x), fun b x => k.subO b (h.subO b x), fun b x => ?_, fun b x => ?_, fun b hb hn => ?_, Nat.le_trans h.size k.size, k.tape.trans h.tape, k.os.trans h.os, k.output.trans h.output⟩
  · rcases k.new b x with y | y
    · exact h.new b y
    · exact .inr (Nat.le_trans h.size y)
  · rcases k.newO b x with y | y
    · exact h.newO b y
    · exact .inr (Nat.le_trans h.size y)
  · rw [k.keep b (Nat.lt_of_lt_of_le hb h.size) (fun y => (h.newO b y).elim hn (fun z => by omega)), h.keep b hb hn]
theorem Left.step {F O F' O' : Blocks} {w w' : World} {es : Array Event} (h : StepOK F O w F' O' w' es) : Left F O w F' O' w' := ⟨h.sub, h.subO, h.new, h.newO, h.keep, h.size, h.tape, h.os, h.output⟩

section
variable {P : Program} {SB : Blocks} {Stop : Blocks → Blocks → Goroutine → World → Prop}

/-- ████ THE STRETCH BESIDE LEAVERS. ████ -/
theorem beside_wg : ∀ (r : Rank) (M : Nat) (gs : Array Goroutine) (a : Goroutine) (w : World) (sl : Option (Nat × Nat)) (t : Trace) (q : Nat → Nat) (F O : Blocks), sumTo gs.size q ≤ M → gs[0]? = some a → Leavers P t gs q → PastW SB w gs.size t → FootOK SB F O w →
      WGo P true Stop r F O a w →
      ∃ (N : Nat) (gs' : Array Goroutine) (a' : Goroutine) (w' : World) (sl' : Option (Nat × Nat)) (t' : Trace) (q' : Nat → Nat) (F' O' : Blocks),
        runNT P N (crowd gs w sl) t = (.next (crowd gs' w' sl'), t') ∧ gs'.size = gs.size ∧ gs'[0]? = some a' ∧ Stop F' O' a' w' ∧ Leavers P t' gs' q' ∧ PastW SB w' gs'.size t' ∧ FootOK SB F' O' w' ∧ Left F O w F' O' w' := by
  intro r
  induction r with
  | leaf => exact fun M gs a w sl t q F O _ h0 hL hP hF h => ⟨0, gs, a, w, sl, t, q, F, O, rfl, rfl, h0, h w (Ext.refl ..), hL, hP, hF, Left.refl ..⟩
  | node f ihr =>
    intro M
    induction M with
    | zero | succ M ihM =>
      intro gs a w sl t q F O hM h0 hL hP hF h
      obtain ⟨hrun, hstep⟩ := h
      have haw : ∀ g ∈ gs, awake g := by
        intro g hg
        obtain ⟨i, hi, rfl⟩ := Array.mem_iff_getElem.1 hg
        rcases Nat.eq_zero_or_pos i with rfl | hpos
        · have : gs[0] = a := by simpa [Array.getElem?_eq_getElem hi] using h0
          rw [this]; exact awake_of (.inl hrun)
        · exact awake_of ((hL.old i _ hpos (Array.getElem?_eq_getElem hi)).status.elim .inl fun x => .inr (.inr x))
      have hpos0 : 0 < gs.size := (Array.getElem?_eq_some_iff.1 h0).1
      obtain ⟨i, g, d, sl', hi, hg, hst⟩ := crowd_pick (P := P) (w := w) (sl := sl) haw ⟨0, a, h0, hrun⟩
      have ed : Ext F w (w.at d) := ⟨Nat.le_refl _, fun _ _ => rfl⟩
      have ld : Left F O w F O (w.at d) := ⟨fun _ h => h, fun _ h => h, fun _ h => .inl h, fun _ h => .inl h, fun _ _ _ => rfl, Nat.le_refl _, rfl, rfl, rfl⟩
      have hPd : PastW SB (w.at d) gs.size t := ⟨hP.past, hP.seen, hP.mem, hP.quiet, hP.gs⟩
      have hFd : FootOK SB F O (w.at d) := ⟨hF.apart, hF.low, hF.own, hF.foot⟩
      rcases Nat.eq_zero_or_pos i with rfl | hpos
      · obtain rfl : g = a := by rw [h0] at hi; exact (Option.some.inj hi).symm
        obtain ⟨F', O', a', w', es, hgo, hok, hG'⟩ := hstep (w.at d) ed
        have hrunT := runT_crowd_go (P := P) (sl := sl') (i := 0) hi (show stepG P (0 == 0) g (w.at d) = _ from hgo)
        have hsz : ((gs.map (woken P g a' w')).setIfInBounds 0 a').size = gs.size := by simp
        have hF' := hFd.step hok
        obtain ⟨N, gs', a'', w'', sl'', t', q', F'', O'', hr, hs', h0', hS, hL', hP', hF'', hl⟩ := ihr (w.at d) (sumTo gs.size q) ((gs.map (woken P g a' w')).setIfInBounds 0 a') a' w' sl' (t ++ MemOp.ofEvents 0 g.frame.fn g.frame.place es) q F' O' (by rw [hsz]; exact Nat.le_refl _) (by simp [hpos0])
          ⟨fun j x hj hx => by
            have hne : 0 ≠ j := by omega
            rw [Array.getElem?_setIfInBounds_ne hne, Array.getElem?_map] at hx
            obtain ⟨y, hy, rfl⟩ := Option.map_eq_some_iff.1 hx
            have hq := hL.old j y hj hy
            rw [woken_quitsD hq, Deaf_other t (by omega) _ (fun op hop => by obtain ⟨e, _, rfl⟩ := Go.Conc.mem_ofEvents hop; rfl)]
            exact hq, fun j hj => by
            rw [Deaf_other t (g' := 0) (by simp at hj; omega) _ (fun op hop => by obtain ⟨e, _, rfl⟩ := Go.Conc.mem_ofEvents hop; rfl)]
            exact hL.above j (by simpa using hj)⟩
          (by rw [hsz]; exact hPd.own hpos0 hok hF' _ _) hF' hG'
        exact ⟨N + 1, gs', a'', w'', sl'', t', q', F'', O'', by simp only [runNT, hst, hrunT]; exact hr, hs'.trans hsz, h0', hS, hL', hP', hF'', (ld.trans (Left.step hok)).trans hl⟩
      · have hq := hL.old i g hpos hi
        have hi0 : (i == 0) = false := by simp; omega
        have hlt : i < gs.size := (Array.getElem?_eq_some_iff.1 hi).1
        cases hqi : q i with
        | zero => rw [hqi] at hq; rw [hq.1] at hg; cases hg
        | succ k =>
          rw [hqi] at hq
          rcases hq with ⟨hf, _⟩ | ⟨_, g', es, hm, hstp, hq'⟩
          · rw [hf] at hg; cases hg
          have hrunT := runT_crowd_go (P := P) (sl := sl') (i := i) hi (by rw [hi0]; exact hstp (w.at d))
          have hsz : ((gs.map (woken P g g' (w.at d))).setIfInBounds i g').size = gs.size := by simp
          have hsum : sumTo gs.size (upd q i k) + (k + 1) = sumTo gs.size q + k := by
            have := sumTo_upd q k id hlt
            simpa [hqi] using this
          first
          | (exfalso; omega)
          | obtain ⟨N, gs', a'', w'', sl'', t', q', F'', O'', hr, hs', h0', hS, hL', hP', hF'', hl⟩ := ihM ((gs.map (woken P g g' (w.at d))).setIfInBounds i g') a (w.at d) sl' (t ++ MemOp.ofEvents i g.frame.fn g.frame.place es) (upd q i k) F O (by rw [hsz]; omega)
              (by
                have hne : i ≠ 0 := by omega
                rw [Array.getElem?_setIfInBounds_ne hne, Array.getElem?_map, h0]
                simp [woken_run hrun])
              ⟨fun j x hj hx => by
                by_cases hji : i = j
                · subst hji
                  rw [Array.getElem?_setIfInBounds_self_of_lt (by simpa using hlt)] at hx
                  obtain rfl := Option.some.inj hx
                  rw [upd_same, Deaf_own]
                  exact hq'
                · rw [Array.getElem?_setIfInBounds_ne hji, Array.getElem?_map] at hx
                  obtain ⟨y, hy, rfl⟩ := Option.map_eq_some_iff.1 hx
                  have hqj := hL.old j y hj hy
                  rw [woken_quitsD hqj, upd_ne q k (Ne.symm hji), Deaf_other t hji _ (fun op hop => by obtain ⟨e, _, rfl⟩ := Go.Conc.mem_ofEvents hop; rfl)]
                  exact hqj, fun j hj => by
                rw [Deaf_other t (g' := i) (by simp at hj; omega) _ (fun op hop => by obtain ⟨e, _, rfl⟩ := Go.Conc.mem_ofEvents hop; rfl)]
                exact hL.above j (by simpa using hj)⟩
              (by rw [hsz]; exact hPd.mute (by omega) hlt hm) hFd (WGo.ext (r := .node f) ⟨hrun, hstep⟩ ed)
            exact ⟨N + 1, gs', a'', w'', sl'', t', q', F'', O'', by simp only [runNT, hst, hrunT]; exact hr, hs'.trans hsz, h0', hS, hL', hP', hF'', ld.trans hl⟩
end

end Go.Proofs.YtkpekiajdlolnabGreat.Ph

/-
  THE PHASE, second text: (*WaitGroup).Add(1) AND Wait IN COMPANY THAT MAKES MEMORY: goroutine 0's steps, under a rely that lets the others make what they like.
-/
namespace Go.Proofs.YtkpekiajdlolnabGreat.Ph
open Go Go.Conc Go.ConcN Go.RowKit Go.Conc.Lib Go.ConcR.Gen Go.ConcN.Gen Go.Proofs.YtkpekiajdlolnabGreat.Sim
open Go.ConcR (KK wgBlock WgAt stA smA rd wr mk DC0)
variable {L : WgLink}

/-- what goroutine 0 suffers: the blocks in F stand; the group's block stays one. -/
structure RM (ty : TypeId) (Wg : Nat) (F : Blocks) (w w1 : World) : Prop where
  ext : Ext F w w1
  live : WgLive ty Wg w → WgLive ty Wg w1
theorem rm_rely {ty : TypeId} {Wg : Nat} {F : Blocks} {w w1 : World} (h : WgLive ty Wg w) (r : RM ty Wg F w w1) : WgLive ty Wg w1 := r.live h

theorem rm_trans {ty : TypeId} {Wg : Nat} {F : Blocks} (a b c : World) (h : RM ty Wg F a b) (k : RM ty Wg F b c) : RM ty Wg F a c := ⟨h.ext.trans k.ext, k.live ∘ h.live⟩
section
variable (P : Program) (ty : TypeId) (Wg : Nat) (F : Blocks)
def MG (Stop : Goroutine → World → Prop) (g : Goroutine) (w : World) : Prop := ∃ m, Goes P true (RM ty Wg F) DC0 Stop m g w
def AtMk (m : Mark) (K : Goroutine → World → Prop) (g : Goroutine) (w : World) : Prop :=
  g.status = .running ∧ ∃ g', stepG P true g w = .go g' w #[mk m] ∧ K g' w
/-- the atomic add of 1, whatever the count: where the count comes to 1 the library says that it reads the semaphore's cell. -/
def AtAdd (K : Goroutine → World → Prop) (g : Goroutine) (w : World) : Prop :=
  g.status = .running ∧ ∀ v : Nat, v < 2147483647 → WgAt ty Wg w (v * KK) 0 →
    ∃ g', stepG P true g w = .go g' (w.setCell (stA Wg) (.int .u64 ((v + 1) * KK))) #[rd (stA Wg), wr (stA Wg)] ∧
      ((v = 0 ∧ MG P ty Wg F (AtMk P (.read (smA Wg)) (MG P ty Wg F (AtMk P .enable K))) g' (w.setCell (stA Wg) (.int .u64 ((v + 1) * KK)))) ∨
       (v ≠ 0 ∧ MG P ty Wg F (AtMk P .enable K) g' (w.setCell (stA Wg) (.int .u64 ((v + 1) * KK)))))
end

section
variable (P : Program) (ty : TypeId) (Wg : Nat) (F : Blocks)
/-- behind the load that reads 0: enable, acquire, and on. -/
def AtOut (K : Goroutine → World → Prop) : Goroutine → World → Prop := MG P ty Wg F (AtMk P .enable (MG P ty Wg F (AtMk P (.acquire (stA Wg)) K)))
def AtLd2 (K : Goroutine → World → Prop) (g : Goroutine) (w : World) : Prop :=
  g.status = .running ∧ (WgAt ty Wg w 0 0 → ∃ g', stepG P true g w = .go g' w #[rd (stA Wg)] ∧ AtOut P ty Wg F K g' w)
def AtSem (K : Goroutine → World → Prop) (g : Goroutine) (w : World) : Prop :=
  g.status = .running ∧ g.offers = none ∧ ((∃ st, WgAt ty Wg w st 0) → stepG P true g w = .go { g with status := .blocked } w #[]) ∧
    (WgAt ty Wg w 0 1 → ∃ g', stepG P true g w = .go g' (w.setCell (smA Wg) (.int .u32 0)) (semEvents (smA Wg)) ∧ MG P ty Wg F (AtLd2 P ty Wg F K) g' (w.setCell (smA Wg) (.int .u32 0)))
/-- the CompareAndSwap, 'vs' having been seen: it hits, or misses: back to the loop's head. -/
def AtCas (A : Goroutine → World → Prop) (K : Goroutine → World → Prop) (vs : Nat) (g : Goroutine) (w : World) : Prop :=
  g.status = .running ∧ ∀ v : Nat, v < 2147483648 → WgAt ty Wg w (v * KK) 0 →
    (v = vs → ∃ g', stepG P true g w = .go g' (w.setCell (stA Wg) (.int .u64 (v * KK + 1))) #[rd (stA Wg), wr (stA Wg)] ∧ MG P ty Wg F (AtMk P (.write (smA Wg)) (MG P ty Wg F (AtSem P ty Wg F K))) g' (w.setCell (stA Wg) (.int .u64 (v * KK + 1)))) ∧
    (v ≠ vs → ∃ g', stepG P true g w = .go g' w #[rd (stA Wg)] ∧ MG P ty Wg F A g' w)
def AtLd (A : Goroutine → World → Prop) (K : Goroutine → World → Prop) (g : Goroutine) (w : World) : Prop :=
  g.status = .running ∧ ∀ v : Nat, v < 2147483648 → WgAt ty Wg w (v * KK) 0 → ∃ g', stepG P true g w = .go g' w #[rd (stA Wg)] ∧
    (v = 0 → AtOut P ty Wg F K g' w) ∧ (v ≠ 0 → MG P ty Wg F (AtCas P ty Wg F A K v) g' w)
end
/-- the head of Wait's loop. -/
def Anch (L : WgLink) (Wg : Nat) (c : Frame) (cs : List Frame) (g : Goroutine) (w : World) : Prop :=
  ∃ T : Array Value, g = G ((base L.wait).at ⟨T, []⟩ [.code (L7 L), .inLoop (L7 L), .inBlock 0]) (c :: cs) ∧ T.size = 84 ∧ T[0]? = some (.pointer (some ⟨Wg, 0, none⟩)) ∧ WgLive L.tWg Wg w

section
variable {P : Program} {Wg : Nat} {F : Blocks} {b₀ : Frame} {a₀ : Act} {ops₀ : Array Oper} {i₀ : Nat} {rest₀ : List Nat} {k₀ : List Item} {cs : List Frame}

set_option maxRecDepth 100000 in
set_option maxHeartbeats 8000000 in
theorem add1 (H : WgLib P L) {K : Goroutine → World → Prop} {mT : Nat}
    (hT : ∀ w, WgLive L.tWg Wg w → Goes P true (RM L.tWg Wg F) DC0 K mT (G (b₀.at (a₀.put ((ops₀[i₀]?).bind (·.dst)) (.tuple #[])) (.inRegion ops₀ rest₀ :: k₀)) cs) w)
    (w : World) (hF : WgLive L.tWg Wg w) :
    MG P L.tWg Wg F (AtMk P .disable (MG P L.tWg Wg F (AtAdd P L.tWg Wg F (MG P L.tWg Wg F K))))
      (G ((base L.add).at ⟨#[.pointer (some ⟨Wg, 0, none⟩), .int .i64 1, undef, undef, undef, undef, undef, undef, undef, undef, undef, undef, undef, undef, undef, undef, undef, undef, undef, undef, undef, undef, undef, undef, undef, undef, undef, undef, undef, undef, undef, undef, undef, undef, undef, undef, undef, undef, undef, undef, undef, undef, undef, undef, undef, undef, undef, undef, undef, undef, undef, undef, undef, undef, undef, undef, undef, undef, undef, undef, undef, undef, undef, undef, undef, undef, undef, undef, undef, undef, undef, undef, undef, undef, undef, undef, undef, undef, undef, undef, undef, undef, undef, undef, undef, undef, undef, undef, undef, undef, undef, undef, undef, undef, undef, undef, undef, undef, undef, undef, undef, undef, undef, undef, undef, undef, undef, undef, undef, undef, undef, undef, undef, undef, undef, undef, undef], []⟩ [.code (body_add L)]) (b₀.at a₀ (.inRegion ops₀ (i₀ :: rest₀) :: k₀) :: cs)) w := by
  lib_facts
  simp only [body_add, addFn, Option.getD_some]
  refine ⟨40, ?_⟩
  u_c stepG_seq rm_rely hF
  u_cond true rm_rely hF
  u_c stepG_seq rm_rely hF
  u_c stepG_seq rm_rely hF
  u_reg rm_rely hF
  u_op rm_rely hF
  u_op rm_rely hF
  u_c stepG_region_end rm_rely hF
  u_cond false rm_rely hF
  u_c stepG_skip rm_rely hF
  u_c stepG_seq rm_rely hF
  u_reg rm_rely hF
  refine Goes.stop (fun w1 h1 => ?_)
  replace hF := rm_rely hF h1
  clear h1
  refine ⟨rfl, _, stepG_mark0 .disable (by simp) rfl rfl (by k_ne) rfl H.f_disable (x_disable_n L) (x_disable_b L) (x_disable_x L) (x_disable_f L), 60, ?_⟩
  walk_nrm
  u_c stepG_region_end rm_rely hF
  u_reg rm_rely hF
  u_defer rm_rely hF
  u_c stepG_region_end rm_rely hF
  u_c stepG_seq rm_rely hF
  u_reg rm_rely hF
  u_op rm_rely hF
  u_c stepG_region_end rm_rely hF
  u_c stepG_seq rm_rely hF
  u_c stepG_seq rm_rely hF
  u_reg rm_rely hF
  u_bub rm_rely hF
  u_c stepG_region_end rm_rely hF
  u_cond false rm_rely hF
  u_c stepG_skip rm_rely hF
  u_c stepG_seq rm_rely hF
  u_reg rm_rely hF
  u_op rm_rely hF
  u_op rm_rely hF
  u_op rm_rely hF
  u_op rm_rely hF
  u_op rm_rely hF
  u_op rm_rely hF
  u_call H.f_uAdd (nm_uAdd L) uAddFn rm_rely hF
  u_c stepG_seq rm_rely hF
  u_reg rm_rely hF
  u_op rm_rely hF
  u_c stepG_region_end rm_rely hF
  u_c stepG_seq rm_rely hF
  u_reg rm_rely hF
  u_op rm_rely hF
  u_op rm_rely hF
  u_op rm_rely hF
  u_op rm_rely hF
  refine Goes.stop (fun w2 h2 => ?_)
  replace hF := rm_rely hF h2
  clear h2
  refine ⟨rfl, fun v hv hw => ?_⟩
  rcases Nat.eq_zero_or_pos v with rfl | hvp
  · replace hw : WgAt L.tWg Wg w2 0 0 := by simpa using hw
    have z : (((0 : Nat) : Int) + 1) * KK = KK := by simp
    rw [z]
    have e0 : IntKind.u64.wrap (0 + 4294967296) = KK := by decide
    refine ⟨_, (stepG_add_atomic rfl rfl (by k_ne) rfl H.f_addU64 (x_addU64_n L) (x_addU64_b L) (x_addU64_x L) .u64 (x_addU64_f L) rfl rfl hw.cellSt (hw.thaw 0)).trans (by rw [e0]; rfl), .inl ⟨rfl, 120, ?_⟩⟩
    replace hF : WgLive L.tWg Wg (w2.setCell (stA Wg) (.int .u64 KK)) := ⟨_, _, hw.setSt _⟩
    clear hw
    simp only [KK] at hF ⊢
    walk_nrm
    u_op rm_rely hF
    u_c stepG_region_end rm_rely hF
    u_c stepG_ret' rm_rely hF
    u_leave1 H.f_uAdd rm_rely hF
    u_op rm_rely hF
    u_c stepG_region_end rm_rely hF
    u_c stepG_seq rm_rely hF
    u_c stepG_seq rm_rely hF
    u_reg rm_rely hF
    u_op rm_rely hF
    u_op rm_rely hF
    u_op rm_rely hF
    u_op rm_rely hF
    u_skip rm_rely hF
    u_skip rm_rely hF
    u_op rm_rely hF
    u_c stepG_region_end rm_rely hF
    u_cond false rm_rely hF
    u_c stepG_skip rm_rely hF
    u_c stepG_seq rm_rely hF
    u_reg rm_rely hF
    u_op rm_rely hF
    u_op rm_rely hF
    u_op rm_rely hF
    u_op rm_rely hF
    u_c stepG_region_end rm_rely hF
    u_c stepG_seq rm_rely hF
    u_reg rm_rely hF
    u_op rm_rely hF
    u_op rm_rely hF
    u_op rm_rely hF
    u_op rm_rely hF
    u_c stepG_region_end rm_rely hF
    u_c stepG_seq rm_rely hF
    u_c stepG_seq rm_rely hF
    u_reg rm_rely hF
    u_op rm_rely hF
    u_op rm_rely hF
    u_op rm_rely hF
    u_op rm_rely hF
    u_op rm_rely hF
    u_op rm_rely hF
    u_op rm_rely hF
    u_op rm_rely hF
    u_op rm_rely hF
    u_op rm_rely hF
    u_c stepG_region_end rm_rely hF
    u_cond true rm_rely hF
    u_reg rm_rely hF
    u_op rm_rely hF
    u_op rm_rely hF
    u_op rm_rely hF
    u_conv H.underlying_tPU32 H.room_tU32 (WgLive.cell1 hF).choose_spec rm_rely hF
    refine Goes.stop (fun w3 h3 => ?_)
    replace hF := rm_rely hF h3
    clear h3
    refine ⟨rfl, _, stepG_markAt .read (by simp) rfl rfl (by k_ne) rfl H.f_raceRead (x_raceRead_n L) (x_raceRead_b L) (x_raceRead_x L) (x_raceRead_f L) (ad := ⟨Wg, 1, none⟩) (by simp [Act.eval]), 120, ?_⟩
    walk_nrm
    u_c stepG_region_end rm_rely hF
    u_c stepG_seq rm_rely hF
    u_c stepG_seq rm_rely hF
    u_reg rm_rely hF
    u_op rm_rely hF
    u_op rm_rely hF
    u_c stepG_region_end rm_rely hF
    u_cond false rm_rely hF
    u_c stepG_skip rm_rely hF
    u_c stepG_seq rm_rely hF
    u_c stepG_seq rm_rely hF
    u_reg rm_rely hF
    u_op rm_rely hF
    u_op rm_rely hF
    u_op rm_rely hF
    u_skip rm_rely hF
    u_skip rm_rely hF
    u_op rm_rely hF
    u_op rm_rely hF
    u_skip rm_rely hF
    u_skip rm_rely hF
    u_skip rm_rely hF
    u_skip rm_rely hF
    u_op rm_rely hF
    u_c stepG_region_end rm_rely hF
    u_cond false rm_rely hF
    u_c stepG_skip rm_rely hF
    u_c stepG_seq rm_rely hF
    u_c stepG_seq rm_rely hF
    u_reg rm_rely hF
    u_op rm_rely hF
    u_op rm_rely hF
    u_op rm_rely hF
    u_skip rm_rely hF
    u_skip rm_rely hF
    u_op rm_rely hF
    u_c stepG_region_end rm_rely hF
    u_cond true rm_rely hF
    u_c stepG_ret' rm_rely hF
    refine Goes.stop (fun wq hq => ?_)
    replace hF := rm_rely hF hq
    clear hq
    refine ⟨rfl, _, stepG_unwind_entry (v := .tuple #[]) (evs := #[mk .enable]) rfl H.f_enable (x_enable_n L) (x_enable_b L) (x_enable_x L) (x_enable_f L) (by simp [Extern.Race.none_]) (by simp [mk]) (by simp [mk]), ?_⟩
    refine ⟨mT + 1, ?_⟩
    exact Goes.step rfl (fun wq hq => by
      refine goes_leave0 rfl rfl H.f_add rfl ⟨by u_nil, ?_⟩
      exact hT _ (rm_rely hF hq))
  · obtain ⟨V, hV⟩ : ∃ V : Int, V = (v : Int) + 1 := ⟨_, rfl⟩
    obtain ⟨S, hS⟩ : ∃ S : Int, S = V * KK := ⟨_, rfl⟩
    have eS : IntKind.u64.wrap ((v : Int) * KK + 4294967296) = S := by rw [IntKind.wrap_u64, hS, hV]; simp only [KK]; omega
    rw [← hV, ← hS]
    have a1 : S / 4294967296 = V := by rw [hS]; simp only [KK]; omega
    have b1 : bits .and .u64 S 2147483648 = 0 := by rw [hS, hV]; have := st_flag (v + 1) 0 (by omega) (by omega); simpa [KK] using this
    have b2 : bits .and .u64 S 2147483647 = 0 := by rw [hS, hV]; have := st_waiters (v + 1) 0 (by omega) (by omega); simpa [KK] using this
    have c1 : IntKind.i32.wrap V = V := by rw [IntKind.wrap_i32]; omega
    have hV1 : 1 < V := by omega
    have hV2 : V < 2147483648 := by omega
    have q1 : (V == 1) = false := by simp; omega
    have q2 : decide (V = 1) = false := decide_eq_false (by omega)
    have q3 : decide (V < 0) = false := decide_eq_false (by omega)
    have q4 : decide (0 < V) = true := decide_eq_true (by omega)
    have q5 : (V == 0) = false := by simp; omega
    have q6 : decide (V = 0) = false := decide_eq_false (by omega)
    refine ⟨_, (stepG_add_atomic rfl rfl (by k_ne) rfl H.f_addU64 (x_addU64_n L) (x_addU64_b L) (x_addU64_x L) .u64 (x_addU64_f L) rfl rfl hw.cellSt (hw.thaw 0)).trans (by rw [eS]; rfl), .inr ⟨by omega, 120, ?_⟩⟩
    replace hF : WgLive L.tWg Wg (w2.setCell (stA Wg) (.int .u64 S)) := ⟨_, _, hw.setSt _⟩
    clear hw hS hV eS
    walk_nrm
    u_op rm_rely hF
    u_c stepG_region_end rm_rely hF
    u_c stepG_ret' rm_rely hF
    u_leave1 H.f_uAdd rm_rely hF
    u_op rm_rely hF
    u_c stepG_region_end rm_rely hF
    u_c stepG_seq rm_rely hF
    u_c stepG_seq rm_rely hF
    u_reg rm_rely hF
    u_op rm_rely hF
    u_op rm_rely hF
    u_op rm_rely hF
    u_op rm_rely hF
    u_skip rm_rely hF
    u_skip rm_rely hF
    u_op rm_rely hF
    u_c stepG_region_end rm_rely hF
    u_cnd false rm_rely hF
    u_c stepG_skip rm_rely hF
    u_c stepG_seq rm_rely hF
    u_reg rm_rely hF
    u_op rm_rely hF
    u_op rm_rely hF
    u_op rm_rely hF
    u_op rm_rely hF
    u_c stepG_region_end rm_rely hF
    u_c stepG_seq rm_rely hF
    u_reg rm_rely hF
    u_op rm_rely hF
    u_op rm_rely hF
    u_op rm_rely hF
    u_op rm_rely hF
    u_c stepG_region_end rm_rely hF
    u_c stepG_seq rm_rely hF
    u_c stepG_seq rm_rely hF
    u_reg rm_rely hF
    u_op rm_rely hF
    u_op rm_rely hF
    u_op rm_rely hF
    u_op rm_rely hF
    u_op rm_rely hF
    u_op rm_rely hF
    u_op rm_rely hF
    u_op rm_rely hF
    u_op rm_rely hF
    u_op rm_rely hF
    u_c stepG_region_end rm_rely hF
    u_cnd false rm_rely hF
    u_c stepG_skip rm_rely hF
    u_c stepG_seq rm_rely hF
    u_c stepG_seq rm_rely hF
    u_reg rm_rely hF
    u_op rm_rely hF
    u_op rm_rely hF
    u_c stepG_region_end rm_rely hF
    u_cnd false rm_rely hF
    u_c stepG_skip rm_rely hF
    u_c stepG_seq rm_rely hF
    u_c stepG_seq rm_rely hF
    u_reg rm_rely hF
    u_op rm_rely hF
    u_op rm_rely hF
    u_op rm_rely hF
    u_skip rm_rely hF
    u_skip rm_rely hF
    u_op rm_rely hF
    u_op rm_rely hF
    u_skip rm_rely hF
    u_skip rm_rely hF
    u_skip rm_rely hF
    u_skip rm_rely hF
    u_op rm_rely hF
    u_c stepG_region_end rm_rely hF
    u_cnd false rm_rely hF
    u_c stepG_skip rm_rely hF
    u_c stepG_seq rm_rely hF
    u_c stepG_seq rm_rely hF
    u_reg rm_rely hF
    u_op rm_rely hF
    u_op rm_rely hF
    u_op rm_rely hF
    u_skip rm_rely hF
    u_skip rm_rely hF
    u_op rm_rely hF
    u_c stepG_region_end rm_rely hF
    u_cnd true rm_rely hF
    u_c stepG_ret' rm_rely hF
    refine Goes.stop (fun wq hq => ?_)
    replace hF := rm_rely hF hq
    clear hq
    refine ⟨rfl, _, stepG_unwind_entry (v := .tuple #[]) (evs := #[mk .enable]) rfl H.f_enable (x_enable_n L) (x_enable_b L) (x_enable_x L) (x_enable_f L) (by simp [Extern.Race.none_]) (by simp [mk]) (by simp [mk]), ?_⟩
    refine ⟨mT + 1, ?_⟩
    exact Goes.step rfl (fun wq hq => by
      refine goes_leave0 rfl rfl H.f_add rfl ⟨by u_nil, ?_⟩
      exact hT _ (rm_rely hF hq))
set_option maxRecDepth 100000 in
set_option maxHeartbeats 8000000 in
theorem waitRound (H : WgLib P L) {K : Goroutine → World → Prop} {mT : Nat}
    (hT : ∀ w, WgLive L.tWg Wg w → Goes P true (RM L.tWg Wg F) DC0 K mT (G (b₀.at (a₀.put ((ops₀[i₀]?).bind (·.dst)) (.tuple #[])) (.inRegion ops₀ rest₀ :: k₀)) cs) w)
    (g : Goroutine) (w : World) (h : Anch L Wg (b₀.at a₀ (.inRegion ops₀ (i₀ :: rest₀) :: k₀)) cs g w) :
    MG P L.tWg Wg F (AtLd P L.tWg Wg F (Anch L Wg (b₀.at a₀ (.inRegion ops₀ (i₀ :: rest₀) :: k₀)) cs) (MG P L.tWg Wg F K)) g w := by
  lib_facts
  obtain ⟨T, rfl, hT84, t0, hF⟩ := h
  obtain ⟨v0, v1, v2, v3, v4, v5, v6, v7, v8, v9, v10, v11, v12, v13, v14, v15, v16, v17, v18, v19, v20, v21, v22, v23, v24, v25, v26, v27, v28, v29, v30, v31, v32, v33, v34, v35, v36, v37, v38, v39, v40, v41, v42, v43, v44, v45, v46, v47, v48, v49, v50, v51, v52, v53, v54, v55, v56, v57, v58, v59, v60, v61, v62, v63, v64, v65, v66, v67, v68, v69, v70, v71, v72, v73, v74, v75, v76, v77, v78, v79, v80, v81, v82, v83, rfl⟩ := array84 T hT84
  simp only [List.getElem?_toArray, List.getElem?_cons_zero, Option.some.injEq] at t0
  subst t0
  refine ⟨30, ?_⟩
  simp only [L7, body_wait, waitFn, Option.getD_some]
  u_c stepG_block rm_rely hF
  u_c stepG_seq rm_rely hF
  u_reg rm_rely hF
  u_op rm_rely hF
  u_op rm_rely hF
  u_op rm_rely hF
  u_call H.f_uLoad (nm_uLoad L) uLoadFn rm_rely hF
  u_c stepG_seq rm_rely hF
  u_reg rm_rely hF
  u_op rm_rely hF
  u_c stepG_region_end rm_rely hF
  u_c stepG_seq rm_rely hF
  u_reg rm_rely hF
  u_op rm_rely hF
  u_op rm_rely hF
  u_op rm_rely hF
  refine Goes.stop (fun w1 h1 => ?_)
  replace hF := rm_rely hF h1
  clear h1
  refine ⟨rfl, fun v hv hw => ?_⟩
  rcases Nat.eq_zero_or_pos v with rfl | hvp
  · replace hw : WgAt L.tWg Wg w1 0 0 := by simpa using hw
    refine ⟨_, stepG_load_atomic (v := 0) rfl rfl (by k_ne) rfl H.f_loadU64 (x_loadU64_n L) (x_loadU64_b L) (x_loadU64_x L) .u64 (x_loadU64_f L) rfl hw.cellSt, fun _ => ⟨60, ?_⟩, fun h => absurd rfl h⟩
    clear hw
    walk_nrm
    u_op rm_rely hF
    u_c stepG_region_end rm_rely hF
    u_c stepG_ret' rm_rely hF
    u_leave1 H.f_uLoad rm_rely hF
    u_op rm_rely hF
    u_c stepG_region_end rm_rely hF
    u_c stepG_seq rm_rely hF
    u_reg rm_rely hF
    u_op rm_rely hF
    u_op rm_rely hF
    u_op rm_rely hF
    u_op rm_rely hF
    u_c stepG_region_end rm_rely hF
    u_c stepG_seq rm_rely hF
    u_reg rm_rely hF
    u_op rm_rely hF
    u_op rm_rely hF
    u_op rm_rely hF
    u_op rm_rely hF
    u_c stepG_region_end rm_rely hF
    u_c stepG_seq rm_rely hF
    u_c stepG_seq rm_rely hF
    u_reg rm_rely hF
    u_op rm_rely hF
    u_op rm_rely hF
    u_c stepG_region_end rm_rely hF
    u_cond true rm_rely hF
    u_c stepG_seq rm_rely hF
    u_cond true rm_rely hF
    u_c stepG_seq rm_rely hF
    u_reg rm_rely hF
    refine Goes.stop (fun w5 h5 => ?_)
    replace hF := rm_rely hF h5
    clear h5
    refine ⟨rfl, _, stepG_mark0 .enable (by simp) rfl rfl (by k_ne) rfl H.f_enable (x_enable_n L) (x_enable_b L) (x_enable_x L) (x_enable_f L), 12, ?_⟩
    walk_nrm
    u_c stepG_region_end rm_rely hF
    u_reg rm_rely hF
    u_op rm_rely hF
    u_conv H.underlying_tWgP H.room_tWg (WgLive.cell0 hF).choose_spec rm_rely hF
    refine Goes.stop (fun w6 h6 => ?_)
    replace hF := rm_rely hF h6
    clear h6
    refine ⟨rfl, _, stepG_markAt (.acquire) (by simp) rfl rfl (by k_ne) rfl H.f_acquire (x_acquire_n L) (x_acquire_b L) (x_acquire_x L) (x_acquire_f L) (by simp [Act.eval, stA]), ?_⟩
    refine ⟨mT + 1 + 19, ?_⟩
    walk_nrm
    u_c stepG_region_end rm_rely hF
    u_c stepG_seq rm_rely hF
    u_c stepG_seq rm_rely hF
    u_reg rm_rely hF
    u_op rm_rely hF
    u_op rm_rely hF
    u_op rm_rely hF
    u_op rm_rely hF
    u_op rm_rely hF
    u_op rm_rely hF
    u_op rm_rely hF
    u_op rm_rely hF
    u_skip rm_rely hF
    u_skip rm_rely hF
    u_op rm_rely hF
    u_c stepG_region_end rm_rely hF
    u_cond false rm_rely hF
    u_c stepG_skip rm_rely hF
    u_c stepG_ret' rm_rely hF
    exact Goes.step rfl (fun wq hq => by
      refine goes_leave0 rfl rfl H.f_wait rfl ⟨by u_nil, ?_⟩
      exact hT _ (rm_rely hF hq))
  · obtain ⟨S, hS⟩ : ∃ S : Int, (v : Int) * KK = S := ⟨_, rfl⟩
    have a1 : S / 4294967296 = (v : Int) := by rw [← hS]; simp only [KK]; omega
    have b1 : bits .and .u64 S 2147483648 = 0 := by rw [← hS]; have := st_flag v 0 (by omega) (by omega); simpa [KK] using this
    have b2 : bits .and .u64 S 2147483647 = 0 := by rw [← hS]; have := st_waiters v 0 (by omega) (by omega); simpa [KK] using this
    have c1 : IntKind.i32.wrap (v : Int) = (v : Int) := by rw [IntKind.wrap_i32]; omega
    have w1' : IntKind.u64.wrap (S + 1) = S + 1 := by rw [IntKind.wrap_u64, ← hS]; simp only [KK]; omega
    have q3 : decide ((v : Int) < 0) = false := decide_eq_false (by omega)
    have q4 : decide (0 < (v : Int)) = true := decide_eq_true (by omega)
    have q5 : ((v : Int) == 0) = false := by simp; omega
    have q6 : decide ((v : Int) = 0) = false := decide_eq_false (by omega)
    rw [hS] at hw
    refine ⟨_, stepG_load_atomic (v := S) rfl rfl (by k_ne) rfl H.f_loadU64 (x_loadU64_n L) (x_loadU64_b L) (x_loadU64_x L) .u64 (x_loadU64_f L) rfl hw.cellSt, fun h0 => absurd h0 (by omega), fun _ => ⟨60, ?_⟩⟩
    clear hw
    walk_nrm
    u_op rm_rely hF
    u_c stepG_region_end rm_rely hF
    u_c stepG_ret' rm_rely hF
    u_leave1 H.f_uLoad rm_rely hF
    u_op rm_rely hF
    u_c stepG_region_end rm_rely hF
    u_c stepG_seq rm_rely hF
    u_reg rm_rely hF
    u_op rm_rely hF
    u_op rm_rely hF
    u_op rm_rely hF
    u_op rm_rely hF
    u_c stepG_region_end rm_rely hF
    u_c stepG_seq rm_rely hF
    u_reg rm_rely hF
    u_op rm_rely hF
    u_op rm_rely hF
    u_op rm_rely hF
    u_op rm_rely hF
    u_c stepG_region_end rm_rely hF
    u_c stepG_seq rm_rely hF
    u_c stepG_seq rm_rely hF
    u_reg rm_rely hF
    u_op rm_rely hF
    u_op rm_rely hF
    u_c stepG_region_end rm_rely hF
    u_cnd false rm_rely hF
    u_c stepG_skip rm_rely hF
    u_c stepG_seq rm_rely hF
    u_reg rm_rely hF
    u_op rm_rely hF
    u_op rm_rely hF
    u_op rm_rely hF
    u_op rm_rely hF
    u_op rm_rely hF
    u_op rm_rely hF
    u_call H.f_uCas (nm_uCas L) uCasFn rm_rely hF
    u_c stepG_seq rm_rely hF
    u_reg rm_rely hF
    u_op rm_rely hF
    u_c stepG_region_end rm_rely hF
    u_c stepG_seq rm_rely hF
    u_reg rm_rely hF
    u_op rm_rely hF
    u_op rm_rely hF
    u_op rm_rely hF
    u_op rm_rely hF
    u_op rm_rely hF
    refine Goes.stop (fun w2 h2 => ?_)
    replace hF := rm_rely hF h2
    clear h2
    refine ⟨rfl, fun v' hv' hw => ⟨fun e => ?_, fun e => ?_⟩⟩
    · subst e
      rw [hS] at hw ⊢
      refine ⟨_, (stepG_cas_hit (v := S) (n := S + 1) rfl rfl (by k_ne) rfl H.f_casU64 (x_casU64_n L) (x_casU64_b L) (x_casU64_x L) .u64 (x_casU64_f L) rfl rfl rfl hw.cellSt (hw.thaw 0)).trans (by rfl), 40, ?_⟩
      replace hF : WgLive L.tWg Wg (w2.setCell (stA Wg) (.int .u64 (S + 1))) := ⟨_, _, hw.setSt _⟩
      clear hw
      walk_nrm
      u_op rm_rely hF
      u_c stepG_region_end rm_rely hF
      u_c stepG_ret' rm_rely hF
      u_leave1 H.f_uCas rm_rely hF
      u_c stepG_region_end rm_rely hF
      u_cond true rm_rely hF
      u_c stepG_seq rm_rely hF
      u_c stepG_seq rm_rely hF
      u_reg rm_rely hF
      u_op rm_rely hF
      u_op rm_rely hF
      u_op rm_rely hF
      u_op rm_rely hF
      u_c stepG_region_end rm_rely hF
      u_cond true rm_rely hF
      u_reg rm_rely hF
      u_op rm_rely hF
      u_op rm_rely hF
      u_op rm_rely hF
      u_conv H.underlying_tPU32 H.room_tU32 (WgLive.cell1 hF).choose_spec rm_rely hF
      refine Goes.stop (fun w3 h3 => ?_)
      replace hF := rm_rely hF h3
      clear h3
      refine ⟨rfl, _, stepG_markAt .write (by simp) rfl rfl (by k_ne) rfl H.f_raceWrite (x_raceWrite_n L) (x_raceWrite_b L) (x_raceWrite_x L) (x_raceWrite_f L) (ad := ⟨Wg, 1, none⟩) (by simp [Act.eval]), 40, ?_⟩
      walk_nrm
      u_c stepG_region_end rm_rely hF
      u_c stepG_seq rm_rely hF
      u_reg rm_rely hF
      u_op rm_rely hF
      u_c stepG_region_end rm_rely hF
      u_c stepG_seq rm_rely hF
      u_c stepG_seq rm_rely hF
      u_reg rm_rely hF
      u_op rm_rely hF
      u_op rm_rely hF
      u_op rm_rely hF
      u_op rm_rely hF
      u_skip rm_rely hF
      u_op rm_rely hF
      u_c stepG_region_end rm_rely hF
      u_cond false rm_rely hF
      u_c stepG_skip rm_rely hF
      u_c stepG_seq rm_rely hF
      u_reg rm_rely hF
      u_op rm_rely hF
      u_op rm_rely hF
      u_op rm_rely hF
      u_op rm_rely hF
      refine Goes.stop (fun w4 h4 => ?_)
      replace hF := rm_rely hF h4
      clear h4
      refine ⟨rfl, rfl, fun ⟨st, hw⟩ => stepG_semacquire_wait rfl rfl rfl H.f_semacquire (x_semacquire_n L) (x_semacquire_b L) (x_semacquire_x L) (x_semacquire_f L) (by simp [Act.eval, smA]) hw.cellSm, fun hf => ?_⟩
      refine ⟨_, (stepG_semacquire (n := 1) rfl rfl (by k_ne) rfl H.f_semacquire (x_semacquire_n L) (x_semacquire_b L) (x_semacquire_x L) (x_semacquire_f L) (by simp [Act.eval, smA]) hf.cellSm (by k_ne) (hf.thaw 1)).trans (by rfl), 40, ?_⟩
      replace hF : WgLive L.tWg Wg (w4.setCell (smA Wg) (.int .u32 0)) := ⟨_, _, hf.setSm 0⟩
      clear hf
      walk_nrm
      u_c stepG_region_end rm_rely hF
      u_c stepG_seq rm_rely hF
      u_reg rm_rely hF
      u_op rm_rely hF
      u_op rm_rely hF
      u_op rm_rely hF
      u_call H.f_uLoad (nm_uLoad L) uLoadFn rm_rely hF
      u_c stepG_seq rm_rely hF
      u_reg rm_rely hF
      u_op rm_rely hF
      u_c stepG_region_end rm_rely hF
      u_c stepG_seq rm_rely hF
      u_reg rm_rely hF
      u_op rm_rely hF
      u_op rm_rely hF
      u_op rm_rely hF
      refine Goes.stop (fun w7 h7 => ?_)
      replace hF := rm_rely hF h7
      clear h7
      refine ⟨rfl, fun hw => ⟨_, stepG_load_atomic (v := 0) rfl rfl (by k_ne) rfl H.f_loadU64 (x_loadU64_n L) (x_loadU64_b L) (x_loadU64_x L) .u64 (x_loadU64_f L) rfl hw.cellSt, 40, ?_⟩⟩
      clear hw
      walk_nrm
      u_op rm_rely hF
      u_c stepG_region_end rm_rely hF
      u_c stepG_ret' rm_rely hF
      u_leave1 H.f_uLoad rm_rely hF
      u_op rm_rely hF
      u_op rm_rely hF
      u_c stepG_region_end rm_rely hF
      u_c stepG_seq rm_rely hF
      u_cond true rm_rely hF
      u_c stepG_seq rm_rely hF
      u_reg rm_rely hF
      refine Goes.stop (fun w5 h5 => ?_)
      replace hF := rm_rely hF h5
      clear h5
      refine ⟨rfl, _, stepG_mark0 .enable (by simp) rfl rfl (by k_ne) rfl H.f_enable (x_enable_n L) (x_enable_b L) (x_enable_x L) (x_enable_f L), 12, ?_⟩
      walk_nrm
      u_c stepG_region_end rm_rely hF
      u_reg rm_rely hF
      u_op rm_rely hF
      u_conv H.underlying_tWgP H.room_tWg (WgLive.cell0 hF).choose_spec rm_rely hF
      refine Goes.stop (fun w6 h6 => ?_)
      replace hF := rm_rely hF h6
      clear h6
      refine ⟨rfl, _, stepG_markAt (.acquire) (by simp) rfl rfl (by k_ne) rfl H.f_acquire (x_acquire_n L) (x_acquire_b L) (x_acquire_x L) (x_acquire_f L) (by simp [Act.eval, stA]), ?_⟩
      refine ⟨mT + 1 + 9, ?_⟩
      walk_nrm
      u_c stepG_region_end rm_rely hF
      u_c stepG_seq rm_rely hF
      u_c stepG_seq rm_rely hF
      u_reg rm_rely hF
      u_op rm_rely hF
      u_c stepG_region_end rm_rely hF
      u_cond false rm_rely hF
      u_c stepG_skip rm_rely hF
      u_c stepG_ret' rm_rely hF
      exact Goes.step rfl (fun wq hq => by
        refine goes_leave0 rfl rfl H.f_wait rfl ⟨by u_nil, ?_⟩
        exact hT _ (rm_rely hF hq))
    · refine ⟨_, stepG_cas_miss (v := (v' : Int) * KK) (old := S) (n := S + 1) rfl rfl (by k_ne) rfl H.f_casU64 (x_casU64_n L) (x_casU64_b L) (x_casU64_x L) .u64 (x_casU64_f L) rfl rfl rfl hw.cellSt (hw.thaw 0) (by rw [← hS]; simp only [KK]; omega), 20, ?_⟩
      clear hw
      walk_nrm
      u_op rm_rely hF
      u_c stepG_region_end rm_rely hF
      u_c stepG_ret' rm_rely hF
      u_leave1 H.f_uCas rm_rely hF
      u_c stepG_region_end rm_rely hF
      u_cond false rm_rely hF
      u_c stepG_skip rm_rely hF
      u_c stepG_inBlock rm_rely hF
      u_c stepG_inLoop rm_rely hF
      refine Goes.stop (fun w3 h3 => ?_)
      replace hF := rm_rely hF h3
      exact ⟨_, rfl, by simp, by simp, hF⟩

set_option maxRecDepth 100000 in
theorem waitStart (H : WgLib P L) {c : Frame} (w : World) (hF : WgLive L.tWg Wg w) :
    MG P L.tWg Wg F (AtMk P .disable (MG P L.tWg Wg F (Anch L Wg c cs))) (G ((base L.wait).at ⟨#[.pointer (some ⟨Wg, 0, none⟩), undef, undef, undef, undef, undef, undef, undef, undef, undef, undef, undef, undef, undef, undef, undef, undef, undef, undef, undef, undef, undef, undef, undef, undef, undef, undef, undef, undef, undef, undef, undef, undef, undef, undef, undef, undef, undef, undef, undef, undef, undef, undef, undef, undef, undef, undef, undef, undef, undef, undef, undef, undef, undef, undef, undef, undef, undef, undef, undef, undef, undef, undef, undef, undef, undef, undef, undef, undef, undef, undef, undef, undef, undef, undef, undef, undef, undef, undef, undef, undef, undef, undef, undef], []⟩ [.code (body_wait L)]) (c :: cs)) w := by
  lib_facts
  simp only [body_wait, waitFn, Option.getD_some]
  refine ⟨6, ?_⟩
  u_c stepG_seq rm_rely hF
  u_cond true rm_rely hF
  u_reg rm_rely hF
  refine Goes.stop (fun w1 h1 => ?_)
  replace hF := rm_rely hF h1
  clear h1
  refine ⟨rfl, _, stepG_mark0 .disable (by simp) rfl rfl (by k_ne) rfl H.f_disable (x_disable_n L) (x_disable_b L) (x_disable_x L) (x_disable_f L), 6, ?_⟩
  walk_nrm
  u_c stepG_region_end rm_rely hF
  u_c stepG_block rm_rely hF
  u_c stepG_loop rm_rely hF
  exact Goes.stop (fun w2 h2 => ⟨_, rfl, by simp, by simp, rm_rely hF h2⟩)
end
end Go.Proofs.YtkpekiajdlolnabGreat.Ph

/-
  THE PHASE, third text: the trace's law where the places of a worker grow: fresh places may be laid to anyone.
-/
namespace Go.Proofs.YtkpekiajdlolnabGreat.Ph
open Go Go.Conc Go.ConcN Go.Proofs.YtkpekiajdlolnabGreat.Sim

/-- nobody has touched the place. -/
def Fresh (t : Trace) (l : Loc) : Prop := ∀ i a, touchAt t i = some a → a.loc ≠ l
theorem Fresh.perm {t : Trace} {l : Loc} (h : Fresh t l) (g : Nat) : Perm t g l := fun i a ha e => (h i a ha e).elim
theorem Fresh.permW {t : Trace} {l : Loc} (h : Fresh t l) (g : Nat) : PermW t g l := fun i a ha e _ => (h i a ha e).elim

section
variable {Sh : Loc → Prop} {Own Rd Own' Rd' : Nat → Loc → Prop} {t : Trace} {j : Nat}
/-- THE FAMILIES GROW by fresh places. -/
theorem CT.grow (h : CT Sh Own Rd t j) (ho : ∀ k l, Own' k l → Own k l ∨ Fresh t l) (hr : ∀ k l, Rd' k l → Rd k l ∨ Fresh t l)
    (so : ∀ k l, Own k l → Own' k l) (sr : ∀ k l, Rd k l → Rd' k l) : CT Sh Own' Rd' t j :=
  ⟨h.quiet, fun k k1 kj l hl => (ho k l hl).elim (h.own k k1 kj l) (fun f => f.perm k), fun k k1 kj l hl => (hr k l hl).elim (h.rd k k1 kj l) (fun f => f.permW k),
    fun l hs hl => h.free l hs fun k k1 kj => ⟨fun x => (hl k k1 kj).1 (so k l x), fun x => (hl k k1 kj).2 (sr k l x)⟩, fun l hs hl => h.mine l hs fun k k1 kj x => hl k k1 kj (so k l x), h.nr, h.gs⟩
/-- one more group's cells are shared, nobody having touched them. -/
theorem CT.share {Sh' : Loc → Prop} (h : CT Sh Own Rd t j) (hs : ∀ l, Sh' l → Sh l ∨ Fresh t l) (ss : ∀ l, Sh l → Sh' l) : CT Sh' Own Rd t j :=
  ⟨fun i op x hi hx hsx => (hs x.loc hsx).elim (h.quiet i op x hi hx) (fun f => (f i x (by rw [touchAt_of hi]; exact hx) rfl).elim), h.own, h.rd, fun l hl => h.free l fun x => hl (ss l x), fun l hl => h.mine l fun x => hl (ss l x), h.nr, h.gs⟩
end

/-- A place in a block that the trace does not touch is fresh. -/
theorem fresh_cell {t : Trace} {B : Nat} (h : ∀ op ∈ t, LowT B op.act) {a : Addr} (ha : B ≤ a.block) : Fresh t (.cell a) := by
  intro i x hx e
  obtain ⟨op, hop, hox⟩ := touch_of hx
  have hl := h op (mem_of_getElem? hop) x hox
  rw [e] at hl
  exact Nat.lt_irrefl _ (Nat.lt_of_lt_of_le hl ha)

end Go.Proofs.YtkpekiajdlolnabGreat.Ph

/-
  THE PHASE, fourth text: WHAT IS ASKED OF EACH GOROUTINE; THE INVARIANT.
-/
namespace Go.Proofs.YtkpekiajdlolnabGreat.Ph
open Go Go.Conc Go.ConcN Go.Proofs.YtkpekiajdlolnabGreat.Sim
open Go.ConcR (KK WgAt stA smA rd wr mk Payload DC0)

/-- the place lies in one of these blocks. -/
def locIn (B : Blocks) : Loc → Prop
  | .cell a => B a.block
  | .obj r => B r
  | _ => False
def none2 : Nat → Loc → Prop := fun _ _ => False

section
variable [Payload] (P : Program) (ty : TypeId) (Wg C n : Nat)

/-- the worker's own walk stops where the store into its cell is next; behind it: the deferred Done. -/
def AtStore (Res : Nat → Blocks → Value → World → Prop) (i : Nat) (F _O : Blocks) (g : Goroutine) (w : World) : Prop :=
  g.status = .running ∧ ∃ v, Res i F v w ∧ ∀ w1, Ext F w w1 → PayAt C n w1 → WgLive ty Wg w1 →
    ∃ g', stepG P false g w1 = .go g' (w1.setCell ⟨C, i, none⟩ v) #[⟨.cell ⟨C, i, none⟩, true, false⟩] ∧
      ∃ m, Goes P false (RW ty Wg C n 0 i) (DWs Wg none2 none2 C n (i + 1)) (AtR0 P ty Wg C n 0 (i + 1) v) m g' (w1.setCell ⟨C, i, none⟩ v)

/-- a worker's script, at its start: it writes nothing that is there; it reads blocks of F0. -/
def Script (Res : Nat → Blocks → Value → World → Prop) (i : Nat) (F0 : Blocks) (g : Goroutine) (w : World) : Prop :=
  ∃ F, (∀ b, F b → F0 b) ∧ WG P false (AtStore P ty Wg C n Res i) F (fun _ => False) g w

/-- the starter's go statement: number i is next; behind it 'Next'. -/
def AtGoM (Res : Nat → Blocks → Value → World → Prop) (i : Nat) (F : Blocks) (Next : Goroutine → World → Prop) (g : Goroutine) (w : World) : Prop :=
  g.status = .running ∧ ∃ g' child, stepG P true g w = .spawn g' child w #[] ∧ child.status = .running ∧ (PayAt C n w → Script P ty Wg C n Res i F child w) ∧ Next g' w
/-- the starter's script: r workers are still to be started (number n - r is next); behind the last: Wait, and K behind its 'acquire'. -/
def Scr (Res : Nat → Blocks → Value → World → Prop) (K : Goroutine → World → Prop) : Nat → Blocks → Blocks → Goroutine → World → Prop
  | 0, F, _, g, w => g.status = .running ∧ (WgLive ty Wg w → ∃ A : Goroutine → World → Prop, (∀ g w, A g w → g.status = .running) ∧ (∀ g w, A g w → MG P ty Wg F (AtLd P ty Wg F A K) g w) ∧ MG P ty Wg F (AtMk P .disable (MG P ty Wg F A)) g w)
  | r + 1, F, _, g, w => g.status = .running ∧ (WgLive ty Wg w → MG P ty Wg F (AtMk P .disable (MG P ty Wg F (AtAdd P ty Wg F (MG P ty Wg F (AtGoM P ty Wg C n Res (n - (r + 1)) F fun g' w => WG P true (Scr Res K r) F (fun _ => False) g' w))))) g w)
end

/-- where a worker is. stage 9: its own walk; 7 .. 1: the kit's 'WSit'. -/
structure WX where
  stage : Nat
  fuel : Nat
  deaf : Nat
  rank : Rank
  F : Blocks
  O : Blocks
  val : Value

section
variable [Payload] (P : Program) (ty : TypeId) (Wg C n : Nat) (Res : Nat → Blocks → Value → World → Prop)
inductive WS (i : Nat) (d : WX) (g : Goroutine) (w : World) : Prop
  | own : d.stage = 9 → d.deaf = 0 → d.fuel = 0 → WGo P false (AtStore P ty Wg C n Res i) d.rank d.F d.O g w → WS i d g w
  | lib : WSit P ty Wg C n none2 none2 0 (i + 1) d.val d.stage d.fuel d.deaf g w → Res i d.F d.val w → WS i d g w

inductive Tag where
  | wg (r : Nat) | kdS (r : Nat) | ad (r : Nat) | rs (r : Nat) | en (r : Nat) | gos (r : Nat)
  | kd | anch | ld | cs (vs : Nat) | ws | sm | blk | l2 | en2 | acq

/-- where the starter is: the tag; its fuel; how deaf it is; its rank; what it relies on. -/
inductive MS (K : Goroutine → World → Prop) : Tag → Nat → Nat → Rank → Blocks → Blocks → Goroutine → World → Prop
  | wg {r : Nat} {rk : Rank} {F O : Blocks} {g : Goroutine} {w : World} : r ≤ n → WGo P true (Scr P ty Wg C n Res K r) rk F O g w → MS K (.wg r) 0 0 rk F O g w
  | kdS {r f : Nat} {F : Blocks} {g : Goroutine} {w : World} : r < n → Goes P true (RM ty Wg F) DC0 (AtMk P .disable (MG P ty Wg F (AtAdd P ty Wg F (MG P ty Wg F (AtGoM P ty Wg C n Res (n - (r + 1)) F fun g' w => WG P true (Scr P ty Wg C n Res K r) F (fun _ => False) g' w))))) f g w → MS K (.kdS r) f 0 .leaf F (fun _ => False) g w
  | ad {r f : Nat} {F : Blocks} {g : Goroutine} {w : World} : r < n → Goes P true (RM ty Wg F) DC0 (AtAdd P ty Wg F (MG P ty Wg F (AtGoM P ty Wg C n Res (n - (r + 1)) F fun g' w => WG P true (Scr P ty Wg C n Res K r) F (fun _ => False) g' w))) f g w → MS K (.ad r) f 1 .leaf F (fun _ => False) g w
  | rs {r f : Nat} {F : Blocks} {g : Goroutine} {w : World} : r < n → Goes P true (RM ty Wg F) DC0 (AtMk P (.read (smA Wg)) (MG P ty Wg F (AtMk P .enable (MG P ty Wg F (AtGoM P ty Wg C n Res (n - (r + 1)) F fun g' w => WG P true (Scr P ty Wg C n Res K r) F (fun _ => False) g' w))))) f g w → MS K (.rs r) f 1 .leaf F (fun _ => False) g w
  | en {r f : Nat} {F : Blocks} {g : Goroutine} {w : World} : r < n → Goes P true (RM ty Wg F) DC0 (AtMk P .enable (MG P ty Wg F (AtGoM P ty Wg C n Res (n - (r + 1)) F fun g' w => WG P true (Scr P ty Wg C n Res K r) F (fun _ => False) g' w))) f g w → MS K (.en r) f 1 .leaf F (fun _ => False) g w
  | gos {r f : Nat} {F : Blocks} {g : Goroutine} {w : World} : r < n → Goes P true (RM ty Wg F) DC0 (AtGoM P ty Wg C n Res (n - (r + 1)) F fun g' w => WG P true (Scr P ty Wg C n Res K r) F (fun _ => False) g' w) f g w → MS K (.gos r) f 0 .leaf F (fun _ => False) g w
  | kd {f : Nat} {F : Blocks} {A : Goroutine → World → Prop} {g : Goroutine} {w : World} : (∀ g w, A g w → g.status = .running) → (∀ g w, A g w → MG P ty Wg F (AtLd P ty Wg F A K) g w) → Goes P true (RM ty Wg F) DC0 (AtMk P .disable (MG P ty Wg F A)) f g w → MS K .kd f 0 .leaf F (fun _ => False) g w
  | anch {f : Nat} {F : Blocks} {A : Goroutine → World → Prop} {g : Goroutine} {w : World} : (∀ g w, A g w → g.status = .running) → (∀ g w, A g w → MG P ty Wg F (AtLd P ty Wg F A K) g w) → Goes P true (RM ty Wg F) DC0 A f g w → MS K .anch f 1 .leaf F (fun _ => False) g w
  | ld {f : Nat} {F : Blocks} {A : Goroutine → World → Prop} {g : Goroutine} {w : World} : (∀ g w, A g w → g.status = .running) → (∀ g w, A g w → MG P ty Wg F (AtLd P ty Wg F A K) g w) → Goes P true (RM ty Wg F) DC0 (AtLd P ty Wg F A K) f g w → MS K .ld f 1 .leaf F (fun _ => False) g w
  | cs {vs f : Nat} {F : Blocks} {A : Goroutine → World → Prop} {g : Goroutine} {w : World} : (∀ g w, A g w → g.status = .running) → (∀ g w, A g w → MG P ty Wg F (AtLd P ty Wg F A K) g w) → Goes P true (RM ty Wg F) DC0 (AtCas P ty Wg F A K vs) f g w → MS K (.cs vs) f 1 .leaf F (fun _ => False) g w
  | ws {f : Nat} {F : Blocks} {g : Goroutine} {w : World} : Goes P true (RM ty Wg F) DC0 (AtMk P (.write (smA Wg)) (MG P ty Wg F (AtSem P ty Wg F K))) f g w → MS K .ws f 1 .leaf F (fun _ => False) g w
  | sm {f : Nat} {F : Blocks} {g : Goroutine} {w : World} : Goes P true (RM ty Wg F) DC0 (AtSem P ty Wg F K) f g w → MS K .sm (f + 1) 1 .leaf F (fun _ => False) g w
  | blk {F : Blocks} {g : Goroutine} {w : World} : (∀ w1, RM ty Wg F w w1 → AtSem P ty Wg F K g w1) → MS K .blk 0 1 .leaf F (fun _ => False) { g with status := .blocked } w
  | l2 {f : Nat} {F : Blocks} {g : Goroutine} {w : World} : Goes P true (RM ty Wg F) DC0 (AtLd2 P ty Wg F K) f g w → MS K .l2 f 1 .leaf F (fun _ => False) g w
  | en2 {f : Nat} {F : Blocks} {g : Goroutine} {w : World} : Goes P true (RM ty Wg F) DC0 (AtMk P .enable (MG P ty Wg F (AtMk P (.acquire (stA Wg)) K))) f g w → MS K .en2 f 1 .leaf F (fun _ => False) g w
  | acq {f : Nat} {F : Blocks} {g : Goroutine} {w : World} : Goes P true (RM ty Wg F) DC0 (AtMk P (.acquire (stA Wg)) K) f g w → MS K .acq f 0 .leaf F (fun _ => False) g w
end

end Go.Proofs.YtkpekiajdlolnabGreat.Ph

/-
  THE PHASE, fifth text: how the others' doing leaves a goroutine's situation; the group's state.
-/
namespace Go.Proofs.YtkpekiajdlolnabGreat.Ph
open Go Go.Conc Go.ConcN Go.Proofs.YtkpekiajdlolnabGreat.Sim
open Go.ConcR (KK WgAt stA smA rd wr mk Payload DC0)
variable [Payload]

section
variable {P : Program} {ty : TypeId} {Wg C n : Nat} {Res : Nat → Blocks → Value → World → Prop} {K : Goroutine → World → Prop} {tag : Tag} {f d : Nat} {rk : Rank} {F O : Blocks} {a : Goroutine} {w w1 : World}
omit [Payload] in
theorem rm_refl (w : World) : RM ty Wg F w w := ⟨Ext.refl .., id⟩
theorem MS.rely (h : MS P ty Wg C n Res K tag f d rk F O a w) (r : RM ty Wg F w w1) : MS P ty Wg C n Res K tag f d rk F O a w1 := by
  cases h with
  | wg h0 h => exact .wg h0 (h.ext r.ext)
  | kdS h0 h => exact .kdS h0 (h.rely rm_trans r)
  | ad h0 h => exact .ad h0 (h.rely rm_trans r)
  | rs h0 h => exact .rs h0 (h.rely rm_trans r)
  | en h0 h => exact .en h0 (h.rely rm_trans r)
  | gos h0 h => exact .gos h0 (h.rely rm_trans r)
  | kd h0 h1 h => exact .kd h0 h1 (h.rely rm_trans r)
  | anch h0 h1 h => exact .anch h0 h1 (h.rely rm_trans r)
  | ld h0 h1 h => exact .ld h0 h1 (h.rely rm_trans r)
  | cs h0 h1 h => exact .cs h0 h1 (h.rely rm_trans r)
  | ws h => exact .ws (h.rely rm_trans r)
  | sm h => exact .sm (h.rely rm_trans r)
  | blk h => exact .blk fun w2 r2 => h w2 (rm_trans _ _ _ r r2)
  | l2 h => exact .l2 (h.rely rm_trans r)
  | en2 h => exact .en2 (h.rely rm_trans r)
  | acq h => exact .acq (h.rely rm_trans r)

omit [Payload] in
theorem mg_run {Stop : Goroutine → World → Prop} (hs : ∀ g w, Stop g w → g.status = .running) {n : Nat} {g : Goroutine} {w : World} (h : Goes P true (RM ty Wg F) DC0 Stop n g w) : g.status = .running :=
  h.running hs w (rm_refl w)
theorem scr_run : ∀ (r : Nat) (F O : Blocks) (g : Goroutine) (w : World), Scr P ty Wg C n Res K r F O g w → g.status = .running := by
  intro r F O g w h
  cases r with
  | zero => exact h.1
  | succ r => exact h.1
omit [Payload] in
theorem wgo_run {main : Bool} {Stop : Blocks → Blocks → Goroutine → World → Prop} (hs : ∀ F O g w, Stop F O g w → g.status = .running) {r : Rank} {g : Goroutine} (h : WGo P main Stop r F O g w) : g.status = .running := by
  cases r with
  | leaf => exact hs _ _ _ _ (h w (Ext.refl ..))
  | node f => exact h.1
theorem MS.status (h : MS P ty Wg C n Res K tag f d rk F O a w) : (a.status = .running ∧ tag ≠ .blk) ∨ (a.status = .blocked ∧ tag = .blk) := by
  cases h with
  | wg h0 h => exact .inl ⟨wgo_run (fun F O g w x => scr_run _ F O g w x) h, by simp⟩
  | kdS h0 h => exact .inl ⟨mg_run (fun _ _ x => x.1) h, by simp⟩
  | ad h0 h => exact .inl ⟨mg_run (fun _ _ x => x.1) h, by simp⟩
  | rs h0 h => exact .inl ⟨mg_run (fun _ _ x => x.1) h, by simp⟩
  | en h0 h => exact .inl ⟨mg_run (fun _ _ x => x.1) h, by simp⟩
  | gos h0 h => exact .inl ⟨mg_run (fun _ _ x => x.1) h, by simp⟩
  | kd h0 h1 h => exact .inl ⟨mg_run (fun _ _ x => x.1) h, by simp⟩
  | anch h0 h1 h => exact .inl ⟨mg_run h0 h, by simp⟩
  | ld h0 h1 h => exact .inl ⟨mg_run (fun _ _ x => x.1) h, by simp⟩
  | cs h0 h1 h => exact .inl ⟨mg_run (fun _ _ x => x.1) h, by simp⟩
  | ws h => exact .inl ⟨mg_run (fun _ _ x => x.1) h, by simp⟩
  | sm h => exact .inl ⟨mg_run (fun _ _ x => x.1) h, by simp⟩
  | blk h => exact .inr ⟨rfl, rfl⟩
  | l2 h => exact .inl ⟨mg_run (fun _ _ x => x.1) h, by simp⟩
  | en2 h => exact .inl ⟨mg_run (fun _ _ x => x.1) h, by simp⟩
  | acq h => exact .inl ⟨mg_run (fun _ _ x => x.1) h, by simp⟩

/-- another goroutine's step, which may wake it. -/
theorem MS.wokenBy (h : MS P ty Wg C n Res K tag f d rk F O a w) (r : RM ty Wg F w w1) (g g' : Goroutine) :
    ∃ tag' f', MS P ty Wg C n Res K tag' f' d rk F O (woken P g g' w1 a) w1 ∧ f' ≤ f + 1 ∧ (tag' = tag ∨ (tag = .blk ∧ tag' = .sm)) ∧ (mayWake P g = true → g'.status = .running → tag' ≠ .blk) := by
  have h' := h.rely r
  unfold Go.Conc.woken
  split
  · rcases h'.status with ⟨hs, hne⟩ | ⟨_, rfl⟩
    · exact ⟨tag, f, by rw [again_running _ (.inl hs)]; exact h', by omega, .inl rfl, fun _ _ => hne⟩
    · cases h' with
      | blk hb =>
        have h3 := hb w1 (rm_refl w1)
        exact ⟨.sm, 0 + 1, by rw [Go.ConcR.again_blocked h3.1 h3.2.1]; exact .sm (Goes.stop hb), by omega, .inr ⟨rfl, rfl⟩, fun _ _ => by simp⟩
  · rename_i hc
    exact ⟨tag, f, h', by omega, .inl rfl, fun h1 h2 => absurd (by simp [h1, h2]) hc⟩
end

/-! ### the group's state -/
def xd (D : Nat → WX) : Nat → WD := fun i => ⟨if (D i).stage = 9 then 7 else (D i).stage, (D i).fuel, (D i).deaf⟩
def pendT : Tag → Nat
  | .rs _ | .en _ | .gos _ => 1
  | _ => 0
def isOpenT : Tag → Prop
  | .wg _ | .kdS _ | .ad _ | .rs _ | .en _ | .gos _ | .kd | .anch | .ld | .cs _ => True
  | _ => False
def isW3T : Tag → Prop
  | .ws | .sm | .blk => True
  | _ => False
def isFinT : Tag → Prop
  | .l2 | .en2 | .acq => True
  | _ => False
inductive Mo (j : Nat) (D : Nat → WD) : Tag → Int → Int → Prop
  | opn {tag : Tag} : isOpenT tag → OpenSt j D → (∀ vs, tag = .cs vs → Vc j D ≤ vs ∧ 1 ≤ vs) → Mo j D tag (((Vc j D + pendT tag : Nat) : Int) * KK) 0
  | reg {tag : Tag} : isW3T tag → OpenSt j D → 1 ≤ Vc j D → Mo j D tag (((Vc j D : Nat) : Int) * KK + 1) 0
  | last {tag : Tag} (L : Nat) : isW3T tag → L < j → ((D L).stage = 4 ∨ (D L).stage = 3 ∨ (D L).stage = 2) → (∀ i, i < j → i ≠ L → (D i).stage = 1) → Mo j D tag (if (D L).stage = 2 then 0 else 1) 0
  | sema {tag : Tag} : (tag = .ws ∨ tag = .sm) → AllQuit j D → Mo j D tag 0 1
  | fin {tag : Tag} : isFinT tag → AllQuit j D → Mo j D tag 0 0
/-- how far the starter is, v workers being counted. -/
def psi (n v : Nat) : Tag → Nat
  | .wg r => 8 * n + 20 + 32 * r
  | .kdS r => 8 * n + 20 + 32 * r + 24
  | .ad r => 8 * n + 20 + 32 * r + 23
  | .rs r => 8 * n + 20 + 32 * r + 22
  | .en r => 8 * n + 20 + 32 * r + 21
  | .gos r => 8 * n + 20 + 32 * r + 20
  | .kd => 8 * n + 12
  | .anch => 8 * v + 8
  | .ld => 8 * v + 7
  | .cs vs => 8 * vs + 6
  | .ws => 5
  | .sm => 4
  | .blk => 4
  | .l2 => 3
  | .en2 => 2
  | .acq => 1

end Go.Proofs.YtkpekiajdlolnabGreat.Ph

/-
  THE PHASE, sixth text: WHAT HOLDS OF THE MACHINE AND THE TRACE AT EVERY MOMENT, whoever stands where.
-/
namespace Go.Proofs.YtkpekiajdlolnabGreat.Ph
open Go Go.Conc Go.ConcN Go.Proofs.YtkpekiajdlolnabGreat.Sim
open Go.ConcR (KK WgAt stA smA rd wr mk Payload DC0 g_of_ofEvents)
variable [Payload]

section
variable (o Wg C : Nat) (SB : Blocks)
def ShP : Loc → Prop := ShB fun b => SB b ∨ b = Wg
def OwnD (j : Nat) (D : Nat → WX) (k : Nat) (l : Loc) : Prop := ∃ i, i < j ∧ k = o + i ∧ (locIn (D i).O l ∨ l = .cell ⟨C, i, none⟩)
def RdD (j : Nat) (D : Nat → WX) (k : Nat) (l : Loc) : Prop := ∃ i, i < j ∧ k = o + i ∧ locIn (fun b => (D i).F b ∧ ¬ (D i).O b) l
structure Sep (j : Nat) (D : Nat → WX) (FM OM : Blocks) (w : World) : Prop where
  wF : ∀ i, i < j → ∀ b, (D i).F b → b < w.heap.size ∧ b ≠ Wg ∧ b ≠ C ∧ ¬ SB b
  wO : ∀ i, i < j → ∀ b, (D i).O b → (D i).F b
  apart : ∀ i i', i < j → i' < j → i ≠ i' → ∀ b, (D i).O b → ¬ (D i').F b
  mF : ∀ b, FM b → b < w.heap.size ∧ b ≠ Wg ∧ b ≠ C ∧ ¬ SB b ∧ ∀ i, i < j → ¬ (D i).O b
  mO : ∀ b, OM b → FM b ∧ ∀ i, i < j → ¬ (D i).F b
  lW : Wg < w.heap.size
  lC : C < w.heap.size
  lS : ∀ b, SB b → b < w.heap.size
  hCW : C ≠ Wg
  sW : ¬ SB Wg
  sC : ¬ SB C
end

/-- from the phase's first operation on nobody says 'release'. -/
def NoRel (o : Nat) (a : Addr) (t : Trace) : Prop := ∃ p, p ≤ t.size ∧ (∀ i g, i < p → t.g? i = some g → g < o) ∧ ∀ i, p ≤ i → t.act? i ≠ some (.mark (.release a))
omit [Payload] in
theorem NoRel.app {o : Nat} {a : Addr} {t u : Trace} (h : NoRel o a t) (hu : ∀ op ∈ u, op.act ≠ .mark (.release a)) : NoRel o a (t ++ u) := by
  obtain ⟨p, h0, h1, h2⟩ := h
  refine ⟨p, by simp; omega, fun i g hi hg => h1 i g hi (by rw [← g?_old (u := u) (by omega)]; exact hg), fun i hi he => ?_⟩
  obtain ⟨op, ho, hoa⟩ := Option.map_eq_some_iff.1 he
  rcases getElem?_append_cases ho with ⟨_, ho'⟩ | ⟨_, hou⟩
  · exact h2 i hi (by rw [act?_of ho', hoa])
  · exact hu op hou hoa
section
variable (P : Program) (ty : TypeId) (o Wg C n : Nat) (SB : Blocks) (Res : Nat → Blocks → Value → World → Prop)
/-- the trace. -/
structure TInv (j : Nat) (D : Nat → WX) (w : World) (t : Trace) : Prop where
  ct : CT (ShP Wg SB) (OwnD o C j D) (RdD o j D) t (o - 1 + j)
  norel : NoRel o (stA Wg) t
  hand : ∀ i g, t.g? i = some g → g ≠ 0 → g < o → t.counts i → ∃ q, t.g? q = some 0 ∧ HappensBefore t i q
  known : ∀ i a, touchAt t i = some a → Knows t 0 i ∨ (ShP Wg SB a.loc ∧ a.kind = .atomic) ∨ ∃ g, t.g? i = some g ∧ o ≤ g ∧ a.kind ≠ .atomic
  mem : ∀ i a, touchAt t i = some a → a.loc.isMemory = true
  seen : ∀ op ∈ t, LowT w.heap.size op.act
structure PCom (j : Nat) (gs : Array Goroutine) (w : World) (t : Trace) (D : Nat → WX) (q : Nat → Nat) (d0 : Nat) : Prop where
  size : gs.size = o + j
  old : ∀ i g, 0 < i → i < o → gs[i]? = some g → QuitsD P (q i) (Deaf t i) g
  wk : ∀ i, i < j → ∃ g, gs[o + i]? = some g ∧ WS P ty Wg C n Res i (D i) g w
  tr : TInv o Wg C SB j D w t
  deaf0 : Deaf t 0 = d0
  deafW : ∀ i, i < j → Deaf t (o + i) = (D i).deaf
  above : ∀ k, o + j ≤ k → Deaf t k = 0
  rel : ∀ i, i < j → (D i).stage ≤ 6 → ∃ r, RelBy (stA Wg) t (o + i) r
  has : ∀ i, i < j → (D i).stage ≤ 6 → Has C i (D i).val w
  pay : PayAt C n w
  opos : 0 < o
end

section
variable {P : Program} {ty : TypeId} {o Wg C n : Nat} {SB : Blocks} {Res : Nat → Blocks → Value → World → Prop} {j : Nat} {gs : Array Goroutine} {w w' : World} {t : Trace} {D : Nat → WX} {q : Nat → Nat} {d0 : Nat} {FM OM : Blocks}

omit [Payload] in
theorem Sep.own (h : Sep Wg C SB j D FM OM w) : Apart (ShP Wg SB) (OwnD o C j D) (RdD o j D) := by
  have inF : ∀ {B : Blocks} {l : Loc}, locIn B l → ∃ b, B b ∧ ((∃ a, l = .cell a ∧ a.block = b) ∨ l = .obj b) := by
    intro B l hl
    cases l with
    | cell a => exact ⟨_, hl, .inl ⟨a, rfl, rfl⟩⟩
    | obj r => exact ⟨_, hl, .inr rfl⟩
    | _ => exact hl.elim
  have same : ∀ {b b' : Nat} {l : Loc}, ((∃ a : Addr, l = .cell a ∧ a.block = b) ∨ l = .obj b) → ((∃ a : Addr, l = .cell a ∧ a.block = b') ∨ l = .obj b') → b = b' := by
    intro b b' l h1 h2
    rcases h1 with ⟨a, rfl, rfl⟩ | rfl
    · rcases h2 with ⟨a', e, rfl⟩ | e
      · cases e; rfl
      · cases e
    · rcases h2 with ⟨a', e, rfl⟩ | e
      · cases e
      · cases e; rfl
  have cellC : ∀ {b i : Nat} {l : Loc}, l = .cell ⟨C, i, none⟩ → ((∃ a : Addr, l = .cell a ∧ a.block = b) ∨ l = .obj b) → b = C := by
    intro b i l e h1
    subst e
    rcases h1 with ⟨a, e, rfl⟩ | e
    · cases e; rfl
    · cases e
  have shb : ∀ {l : Loc} {b : Nat}, ShP Wg SB l → ((∃ a : Addr, l = .cell a ∧ a.block = b) ∨ l = .obj b) → SB b ∨ b = Wg := by
    rintro l b ⟨a, rfl, hs⟩ h1
    rcases h1 with ⟨a', e, rfl⟩ | e
    · cases e; exact hs
    · cases e
  refine ⟨?_, ?_, ?_, ?_⟩
  · rintro k k' l ⟨i, hi, rfl, h1⟩ ⟨i', hi', rfl, h2⟩
    by_cases e : i = i'
    · rw [e]
    · exfalso
      rcases h1 with h1 | h1 <;> rcases h2 with h2 | h2
      · obtain ⟨b, hb, hl⟩ := inF h1
        obtain ⟨b', hb', hl'⟩ := inF h2
        obtain rfl := same hl hl'
        exact h.apart i i' hi hi' e b hb (h.wO i' hi' b hb')
      · obtain ⟨b, hb, hl⟩ := inF h1
        exact (h.wF i hi b (h.wO i hi b hb)).2.2.1 (cellC h2 hl)
      · obtain ⟨b, hb, hl⟩ := inF h2
        exact (h.wF i' hi' b (h.wO i' hi' b hb)).2.2.1 (cellC h1 hl)
      · rw [h1] at h2; cases h2; exact e rfl
  · rintro k k' l ⟨i, hi, rfl, h1⟩ ⟨i', hi', rfl, h2⟩
    obtain ⟨b', ⟨hb', hno⟩, hl'⟩ := inF h2
    rcases h1 with h1 | h1
    · obtain ⟨b, hb, hl⟩ := inF h1
      obtain rfl := same hl hl'
      by_cases e : i = i'
      · subst e; exact hno hb
      · exact h.apart i i' hi hi' e b hb hb'
    · exact (h.wF i' hi' b' hb').2.2.1 (cellC h1 hl')
  · rintro k l ⟨i, hi, rfl, h1⟩ hs
    rcases h1 with h1 | h1
    · obtain ⟨b, hb, hl⟩ := inF h1
      have := h.wF i hi b (h.wO i hi b hb)
      rcases shb hs hl with x | x
      · exact this.2.2.2 x
      · exact this.2.1 x
    · have := shb (b := C) hs (.inl ⟨_, h1, rfl⟩)
      rcases this with x | x
      · exact h.sC x
      · exact h.hCW x
  · rintro k l ⟨i, hi, rfl, h1⟩ hs
    obtain ⟨b, ⟨hb, _⟩, hl⟩ := inF h1
    have := h.wF i hi b hb
    rcases shb hs hl with x | x
    · exact this.2.2.2 x
    · exact this.2.1 x
end

end Go.Proofs.YtkpekiajdlolnabGreat.Ph

/-
  THE PHASE, seventh text: how the trace's law grows.
-/
namespace Go.Proofs.YtkpekiajdlolnabGreat.Ph
open Go Go.Conc Go.ConcN Go.Proofs.YtkpekiajdlolnabGreat.Sim
open Go.ConcR (KK WgAt stA smA rd wr mk Payload DC0 g_of_ofEvents)

section
variable {o Wg C : Nat} {SB : Blocks} {j : Nat} {w w' : World} {t u : Trace} {D D' : Nat → WX}

theorem hand_app (h : ∀ i g, t.g? i = some g → g ≠ 0 → g < o → t.counts i → ∃ q, t.g? q = some 0 ∧ HappensBefore t i q)
    (hu : ∀ op ∈ u, op.g = 0 ∨ o ≤ op.g ∨ op.act.touch? = none) : ∀ i g, (t ++ u).g? i = some g → g ≠ 0 → g < o → (t ++ u).counts i → ∃ q, (t ++ u).g? q = some 0 ∧ HappensBefore (t ++ u) i q := by
  intro i g hg hne hlt hc
  have hc0 := hc
  obtain ⟨x, hx, _⟩ := hc
  obtain ⟨op, hop, hox⟩ := touch_of hx
  rcases getElem?_append_cases hop with ⟨hi, hop'⟩ | ⟨_, hopu⟩
  · obtain ⟨q, hq, hb⟩ := h i g (by simpa [Trace.g?, getElem?_append_old hi] using hg) hne hlt ((counts_old hi).1 hc0)
    have hjl : q < t.size := by
      unfold Trace.g? at hq
      obtain ⟨z, hz, _⟩ := Option.map_eq_some_iff.1 hq
      exact lt_size_of_getElem? hz
    exact ⟨q, by simpa [Trace.g?, getElem?_append_old hjl] using hq, hb_app u hb⟩
  · have eg : op.g = g := by simpa [Trace.g?, hop] using hg
    rcases hu op hopu with h0 | h0 | h0
    · omega
    · omega
    · rw [h0] at hox; cases hox

theorem known_app (h : ∀ i a, touchAt t i = some a → Knows t 0 i ∨ (ShP Wg SB a.loc ∧ a.kind = .atomic) ∨ ∃ g, t.g? i = some g ∧ o ≤ g ∧ a.kind ≠ .atomic)
    (hu : ∀ op ∈ u, ∀ x, op.act.touch? = some x → op.g = 0 ∨ (ShP Wg SB x.loc ∧ x.kind = .atomic) ∨ (o ≤ op.g ∧ x.kind ≠ .atomic)) :
    ∀ i a, touchAt (t ++ u) i = some a → Knows (t ++ u) 0 i ∨ (ShP Wg SB a.loc ∧ a.kind = .atomic) ∨ ∃ g, (t ++ u).g? i = some g ∧ o ≤ g ∧ a.kind ≠ .atomic := by
  intro i a ha
  obtain ⟨op, hop, hox⟩ := touch_of ha
  rcases getElem?_append_cases hop with ⟨hi, hop'⟩ | ⟨_, hopu⟩
  · rcases h i a (by rw [touchAt_of hop']; exact hox) with h0 | h0 | ⟨g, h0, h1⟩
    · exact .inl (h0.app u)
    · exact .inr (.inl h0)
    · exact .inr (.inr ⟨g, by rw [g?_old hi]; exact h0, h1⟩)
  · rcases hu op hopu a hox with h0 | h0 | h0
    · have := knows_own hop
      rw [h0] at this
      exact .inl this
    · exact .inr (.inl h0)
    · exact .inr (.inr ⟨op.g, by simp [Trace.g?, hop], h0⟩)

/-- A place in one of these blocks, from B on: fresh. -/
theorem fresh_of {B : Nat} (h : ∀ op ∈ t, LowT B op.act) {l : Loc} {S : Blocks} (hl : locIn S l) (hS : ∀ b, S b → B ≤ b) : Fresh t l := by
  cases l with
  | cell a => exact fresh_cell h (hS _ hl)
  | obj r =>
    intro i x hx e
    obtain ⟨op, hop, hox⟩ := touch_of hx
    have hlow := h op (mem_of_getElem? hop) x hox
    rw [e] at hlow
    exact Nat.lt_irrefl _ (Nat.lt_of_lt_of_le hlow (hS _ hl))
  | _ => exact hl.elim

theorem locIn_sub {A B E : Blocks} (h : ∀ b, A b → B b ∨ E b) {l : Loc} (hl : locIn A l) : locIn B l ∨ locIn E l := by
  cases l with
  | cell a => exact h _ hl
  | obj r => exact h _ hl
  | _ => exact hl.elim

/-- A STEP OF WORKER NUMBER i. -/
theorem TInv.appW (h : TInv o Wg C SB j D w t) (A : Apart (ShP Wg SB) (OwnD o C j D') (RdD o j D')) {i : Nat} (hi : i < j) (ho : 0 < o) (hsz : w.heap.size ≤ w'.heap.size)
    (hD : ∀ i', i' ≠ i → D' i' = D i') (hF : ∀ b, (D i).F b → (D' i).F b) (hO : ∀ b, (D i).O b → (D' i).O b) (hF' : ∀ b, (D' i).F b → (D i).F b ∨ w.heap.size ≤ b) (hO' : ∀ b, (D' i).O b → (D i).O b ∨ w.heap.size ≤ b) (hlow : ∀ b, (D i).F b → b < w.heap.size)
    (hg : ∀ op ∈ u, op.g = o + i)
    (hk : ∀ op ∈ u, ∀ x, op.act.touch? = some x → x.loc.isMemory = true ∧ ((ShP Wg SB x.loc ∧ x.kind = .atomic) ∨ (x.kind = .plain ∧ (OwnD o C j D' (o + i) x.loc ∨ (RdD o j D' (o + i) x.loc ∧ x.write = false)))))
    (hn : ∀ op ∈ u, op.act ≠ .mark (.release (stA Wg))) (hl : ∀ op ∈ u, LowT w'.heap.size op.act) : TInv o Wg C SB j D' w' (t ++ u) := by
  have grow : CT (ShP Wg SB) (OwnD o C j D') (RdD o j D') t (o - 1 + j) := by
    refine CT.grow h.ct (fun k l => ?_) (fun k l => ?_) (fun k l => ?_) (fun k l => ?_)
    · rintro ⟨i', hi', rfl, h1⟩
      by_cases e : i' = i
      · subst e
        rcases h1 with h1 | h1
        · rcases locIn_sub hO' h1 with h2 | h2
          · exact .inl ⟨i', hi', rfl, .inl h2⟩
          · exact .inr (fresh_of h.seen h2 fun _ x => x)
        · exact .inl ⟨i', hi', rfl, .inr h1⟩
      · rw [hD i' e] at h1
        exact .inl ⟨i', hi', rfl, h1⟩
    · rintro ⟨i', hi', rfl, h1⟩
      by_cases e : i' = i
      · subst e
        rcases locIn_sub (B := fun b => (D i').F b ∧ ¬ (D i').O b) (E := fun b => w.heap.size ≤ b) (fun b ⟨hb, hnb⟩ => (hF' b hb).imp (fun x => ⟨x, fun y => hnb (hO b y)⟩) id) h1 with h2 | h2
        · exact .inl ⟨i', hi', rfl, h2⟩
        · exact .inr (fresh_of h.seen h2 fun _ x => x)
      · rw [hD i' e] at h1
        exact .inl ⟨i', hi', rfl, h1⟩
    · rintro ⟨i', hi', rfl, h1⟩
      by_cases e : i' = i
      · subst e
        refine ⟨i', hi', rfl, h1.imp (fun x => ?_) id⟩
        cases l with
        | cell a => exact hO _ x
        | obj r => exact hO _ x
        | _ => exact x.elim
      · exact ⟨i', hi', rfl, by rw [hD i' e]; exact h1⟩
    · rintro ⟨i', hi', rfl, h1⟩
      by_cases e : i' = i
      · subst e
        have key : ∀ b, ((D i').F b ∧ ¬ (D i').O b) → ((D' i').F b ∧ ¬ (D' i').O b) := fun b ⟨x, y⟩ => ⟨hF b x, fun z => (hO' b z).elim y fun v => by have := hlow b x; omega⟩
        refine ⟨i', hi', rfl, ?_⟩
        cases l with
        | cell a => exact key _ h1
        | obj r => exact key _ h1
        | _ => exact h1.elim
      · exact ⟨i', hi', rfl, by rw [hD i' e]; exact h1⟩
  refine ⟨grow.appW A (k := o + i) (by omega) (by omega) fun op hop => ⟨hg op hop, fun x hx => ?_⟩, h.norel.app hn, hand_app h.hand fun op hop => .inr (.inl (by rw [hg op hop]; omega)), known_app h.known fun op hop x hx => ?_, mem_app h.mem fun op hop x hx => (hk op hop x hx).1, fun op hop => ?_⟩
  · rcases (hk op hop x hx).2 with ⟨h1, h2⟩ | ⟨h1, h2⟩
    · exact .inl ⟨h1, by rw [h2]; simp, by rw [h2]; simp⟩
    · exact .inr h2
  · rcases (hk op hop x hx).2 with h1 | ⟨h1, _⟩
    · exact .inr (.inl h1)
    · exact .inr (.inr ⟨by rw [hg op hop]; omega, by rw [h1]; simp⟩)
  · rcases Array.mem_append.1 hop with h' | h'
    · exact (h.seen op h').mono hsz
    · exact hl op h'

/-- A STEP OF THE STARTER's. -/
theorem TInv.app0 (h : TInv o Wg C SB j D w t) (A : Apart (ShP Wg SB) (OwnD o C j D) (RdD o j D)) (hsz : w.heap.size ≤ w'.heap.size) (hok : ∀ op ∈ u, Ok0 (ShP Wg SB) (OwnD o C j D) (RdD o j D) (o - 1 + j) op)
    (hm : ∀ op ∈ u, ∀ x, op.act.touch? = some x → x.loc.isMemory = true) (hn : ∀ op ∈ u, op.act ≠ .mark (.release (stA Wg))) (hl : ∀ op ∈ u, LowT w'.heap.size op.act) : TInv o Wg C SB j D w' (t ++ u) := by
  refine ⟨h.ct.app0 A hok, h.norel.app hn, hand_app h.hand fun op hop => .inl (hok op hop).1, known_app h.known fun op hop x _ => .inl (hok op hop).1, mem_app h.mem hm, fun op hop => ?_⟩
  rcases Array.mem_append.1 hop with h' | h'
  · exact (h.seen op h').mono hsz
  · exact hl op h'
end

end Go.Proofs.YtkpekiajdlolnabGreat.Ph

/-
  THE PHASE, eighth text: the measure.
-/
namespace Go.Proofs.YtkpekiajdlolnabGreat.Ph
open Go Go.Conc Go.ConcN Go.Proofs.YtkpekiajdlolnabGreat.Sim

/-- one of the first N ranks goes down, all others stand. -/
def RL (N : Nat) (f g : Nat → Rank) : Prop := ∃ i, i < N ∧ Rank.sub (f i) (g i) ∧ ∀ k, k ≠ i → f k = g k
theorem RL.wf (N : Nat) : WellFounded (RL N) := by
  induction N with
  | zero => exact ⟨fun g => ⟨_, fun f ⟨i, hi, _⟩ => absurd hi (Nat.not_lt_zero i)⟩⟩
  | succ N ih =>
    have key : ∀ r : Rank, ∀ g : Nat → Rank, g N = r → Acc (RL (N + 1)) g := by
      intro r
      induction r using Rank.wf.induction with
      | _ r ihr =>
        intro g hg
        have inner : ∀ g : Nat → Rank, g N = r → Acc (RL (N + 1)) g := by
          intro g
          induction g using ih.induction with
          | _ g ihg =>
            intro hg
            refine ⟨_, fun f ⟨i, hi, hs, he⟩ => ?_⟩
            by_cases e : i = N
            · subst e
              exact ihr (f i) (hg ▸ hs) f rfl
            · exact ihg f ⟨i, by omega, hs, he⟩ ((he N (fun h => e h.symm)).trans hg)
        exact inner g hg
    exact ⟨fun g => key _ g rfl⟩

abbrev Mea := Nat × (Nat → Rank) × Nat
def MLt (N : Nat) : Mea → Mea → Prop := Prod.Lex (· < ·) (Prod.Lex (RL N) (· < ·))
theorem MLt.wf (N : Nat) : WellFounded (MLt N) := (Prod.lex Nat.lt_wfRel (Prod.lex ⟨RL N, RL.wf N⟩ Nat.lt_wfRel)).wf

end Go.Proofs.YtkpekiajdlolnabGreat.Ph

/-
  THE PHASE, ninth text: how a step of each kind leaves what holds of the machine.
-/
namespace Go.Proofs.YtkpekiajdlolnabGreat.Ph
open Go Go.Conc Go.ConcN Go.Proofs.YtkpekiajdlolnabGreat.Sim
open Go.ConcR (KK WgAt stA smA rd wr mk Payload DC0 g_of_ofEvents)
variable [Payload]

section
variable {P : Program} {ty : TypeId} {o Wg C n : Nat} {SB : Blocks} {Res : Nat → Blocks → Value → World → Prop} {j : Nat} {gs : Array Goroutine} {w w' : World} {t : Trace} {D : Nat → WX} {q : Nat → Nat} {d0 : Nat} {FM OM : Blocks}

theorem WS.rely (hRes : ∀ i F v w w1, Res i F v w → Ext F w w1 → Res i F v w1) {i : Nat} {d : WX} {g : Goroutine} (h : WS P ty Wg C n Res i d g w) (e : Ext d.F w w') (r : RW ty Wg C n 0 i w w') : WS P ty Wg C n Res i d g w' := by
  cases h with
  | own h1 h2 h3 h => exact .own h1 h2 h3 (h.ext e)
  | lib h hr => exact .lib (h.rely (by simpa using r)) (hRes _ _ _ _ _ hr e)
theorem WS.status {i : Nat} {d : WX} {g : Goroutine} (h : WS P ty Wg C n Res i d g w) : g.status = .running ∨ g.status = .finished := by
  cases h with
  | own h1 h2 h3 h => exact .inl (wgo_run (fun _ _ _ _ x => x.1) h)
  | lib h hr => exact h.status
theorem WS.woken {i : Nat} {d : WX} {g : Goroutine} (h : WS P ty Wg C n Res i d g w) (a a' : Goroutine) (w1 : World) : woken P a a' w1 g = g := by
  unfold Go.Conc.woken
  split
  · exact again_running _ h.status
  · rfl

/-- A STEP OF WORKER NUMBER i (goroutine o + i). -/
theorem PCom.stepW (hRes : ∀ i F v w w1, Res i F v w → Ext F w w1 → Res i F v w1) (h : PCom P ty o Wg C n SB Res j gs w t D q d0) (S : Sep Wg C SB j D FM OM w) {i : Nat} (hi : i < j) {g g' : Goroutine} {fn : FuncId} {pos : String} {es : Array Event} {x : WX}
    (S' : Sep Wg C SB j (upd D i x) FM OM w')
    (hoth : ∀ i', i' < j → i' ≠ i → Ext (D i').F w w' ∧ RW ty Wg C n 0 i' w w') (hs' : WS P ty Wg C n Res i x g' w') (hsz : w.heap.size ≤ w'.heap.size)
    (hF : ∀ b, (D i).F b → x.F b) (hO : ∀ b, (D i).O b → x.O b) (hF' : ∀ b, x.F b → (D i).F b ∨ w.heap.size ≤ b) (hO' : ∀ b, x.O b → (D i).O b ∨ w.heap.size ≤ b)
    (hk : ∀ e ∈ es, ∀ y, (MemAct.ofEvent e).touch? = some y → y.loc.isMemory = true ∧ ((ShP Wg SB y.loc ∧ y.kind = .atomic) ∨ (y.kind = .plain ∧ (OwnD o C j (upd D i x) (o + i) y.loc ∨ (RdD o j (upd D i x) (o + i) y.loc ∧ y.write = false)))))
    (hnr : ∀ e ∈ es, e.loc ≠ .mark (.release (stA Wg))) (hl : ∀ e ∈ es, LowT w'.heap.size (MemAct.ofEvent e))
    (hdeaf : deafBehind (D i).deaf es = x.deaf) (hrel : x.stage ≤ 6 → ∃ r, RelBy (stA Wg) (t ++ MemOp.ofEvents (o + i) fn pos es) (o + i) r)
    (hhas : x.stage ≤ 6 → Has C i x.val w') (hpay : PayAt C n w') :
    PCom P ty o Wg C n SB Res j ((gs.map (woken P g g' w')).setIfInBounds (o + i) g') w' (t ++ MemOp.ofEvents (o + i) fn pos es) (upd D i x) q d0 := by
  have hop := h.opos
  have ne : ∀ k, k ≠ o + i → Deaf (t ++ MemOp.ofEvents (o + i) fn pos es) k = Deaf t k := fun k hk => Deaf_other t (fun e => hk e.symm) _ g_of_ofEvents
  refine ⟨by simp [h.size], fun i' g1 h0 hlt hg1 => ?_, fun i' hi' => ?_, ?_, by rw [ne 0 (by omega), h.deaf0], fun i' hi' => ?_, fun k hk' => by rw [ne k (by omega)]; exact h.above k hk', fun i' hi' hst => ?_, fun i' hi' hst => ?_, hpay, hop⟩
  · rw [get_map_set _ _ _ _ (by omega)] at hg1
    obtain ⟨y, hy, rfl⟩ := Option.map_eq_some_iff.1 hg1
    have hq := h.old i' y h0 hlt hy
    rw [woken_quitsD hq, ne i' (by omega)]
    exact hq
  · by_cases e : i' = i
    · subst e
      exact ⟨g', get_map_set_same _ _ _ (by rw [h.size]; omega), by rw [upd_same]; exact hs'⟩
    · obtain ⟨y, hy, hsy⟩ := h.wk i' hi'
      refine ⟨y, by rw [get_map_set _ _ _ _ (by omega), hy, Option.map_some, hsy.woken], ?_⟩
      rw [upd_ne D _ e]
      exact hsy.rely hRes (hoth i' hi' e).1 (hoth i' hi' e).2
  · refine h.tr.appW S'.own hi hop hsz (fun i' e => upd_ne D _ e) (by rw [upd_same]; exact hF) (by rw [upd_same]; exact hO) (by rw [upd_same]; exact hF') (by rw [upd_same]; exact hO') (fun b hb => (S.wF i hi b hb).1) g_of_ofEvents (fun op hop' y hy => ?_) (norel_of hnr) (fun op hop' => ?_)
    · obtain ⟨e, he, rfl⟩ := Go.Conc.mem_ofEvents hop'
      exact hk e he y hy
    · obtain ⟨e, he, rfl⟩ := Go.Conc.mem_ofEvents hop'
      exact hl e he
  · by_cases e : i' = i
    · subst e; rw [Deaf_own, h.deafW i' hi', upd_same]; exact hdeaf
    · rw [ne _ (by omega), h.deafW i' hi', upd_ne D _ e]
  · by_cases e : i' = i
    · subst e; rw [upd_same] at hst; exact hrel hst
    · rw [upd_ne D _ e] at hst
      obtain ⟨r, hr⟩ := h.rel i' hi' hst
      exact ⟨r, hr.appOther g_of_ofEvents (by omega)⟩
  · by_cases e : i' = i
    · subst e; rw [upd_same] at hst ⊢; exact hhas hst
    · rw [upd_ne D _ e] at hst ⊢
      exact (hoth i' hi' e).2.cell.trans (h.has i' hi' hst)

/-- A STEP OF THE STARTER's. -/
theorem PCom.step0 (hRes : ∀ i F v w w1, Res i F v w → Ext F w w1 → Res i F v w1) (h : PCom P ty o Wg C n SB Res j gs w t D q d0) (S : Sep Wg C SB j D FM OM w) {a a' : Goroutine} {fn : FuncId} {pos : String} {es : Array Event}
    (hoth : ∀ i, i < j → Ext (D i).F w w' ∧ RW ty Wg C n 0 i w w') (hsz : w.heap.size ≤ w'.heap.size)
    (hok : ∀ op ∈ MemOp.ofEvents 0 fn pos es, Ok0 (ShP Wg SB) (OwnD o C j D) (RdD o j D) (o - 1 + j) op) (hm : ∀ e ∈ es, ∀ y, (MemAct.ofEvent e).touch? = some y → y.loc.isMemory = true)
    (hnr : ∀ e ∈ es, e.loc ≠ .mark (.release (stA Wg))) (hl : ∀ e ∈ es, LowT w'.heap.size (MemAct.ofEvent e)) (hpay : PayAt C n w') :
    PCom P ty o Wg C n SB Res j ((gs.map (woken P a a' w')).setIfInBounds 0 a') w' (t ++ MemOp.ofEvents 0 fn pos es) D q (deafBehind d0 es) := by
  have hop := h.opos
  have ne : ∀ k, k ≠ 0 → Deaf (t ++ MemOp.ofEvents 0 fn pos es) k = Deaf t k := fun k hk => Deaf_other t (fun e => hk e.symm) _ g_of_ofEvents
  refine ⟨by simp [h.size], fun i' g1 h0 hlt hg1 => ?_, fun i' hi' => ?_, ?_, by rw [Deaf_own, h.deaf0], fun i' hi' => by rw [ne _ (by omega), h.deafW i' hi'], fun k hk' => by rw [ne k (by omega)]; exact h.above k hk', fun i' hi' hst => ?_, fun i' hi' hst => (hoth i' hi').2.cell.trans (h.has i' hi' hst), hpay, hop⟩
  · rw [get_map_set _ _ _ _ (by omega)] at hg1
    obtain ⟨y, hy, rfl⟩ := Option.map_eq_some_iff.1 hg1
    have hq := h.old i' y h0 hlt hy
    rw [woken_quitsD hq, ne i' (by omega)]
    exact hq
  · obtain ⟨y, hy, hsy⟩ := h.wk i' hi'
    exact ⟨y, by rw [get_map_set _ _ _ _ (by omega), hy, Option.map_some, hsy.woken], hsy.rely hRes (hoth i' hi').1 (hoth i' hi').2⟩
  · refine h.tr.app0 S.own hsz hok (fun op hop' y hy => ?_) (norel_of hnr) (fun op hop' => ?_)
    · obtain ⟨e, he, rfl⟩ := Go.Conc.mem_ofEvents hop'
      exact hm e he y hy
    · obtain ⟨e, he, rfl⟩ := Go.Conc.mem_ofEvents hop'
      exact hl e he
  · obtain ⟨r, hr⟩ := h.rel i' hi' hst
    exact ⟨r, hr.appOther g_of_ofEvents (by omega)⟩

/-- A STEP OF AN OLD LEAVER's. -/
theorem PCom.stepOld (h : PCom P ty o Wg C n SB Res j gs w t D q d0) (S : Sep Wg C SB j D FM OM w) {k : Nat} (k0 : 0 < k) (ko : k < o) {g g' : Goroutine} {fn : FuncId} {pos : String} {es : Array Event} {q1 : Nat}
    (hm : ∀ e ∈ es, e.mute = true) (hq : QuitsD P q1 (deafBehind (Deaf t k) es) g') :
    PCom P ty o Wg C n SB Res j ((gs.map (woken P g g' w)).setIfInBounds k g') w (t ++ MemOp.ofEvents k fn pos es) D (upd q k q1) d0 := by
  have hop := h.opos
  have ne : ∀ k', k' ≠ k → Deaf (t ++ MemOp.ofEvents k fn pos es) k' = Deaf t k' := fun k' hk => Deaf_other t (fun e => hk e.symm) _ g_of_ofEvents
  have quiet : ∀ op ∈ MemOp.ofEvents k fn pos es, op.act.touch? = none := fun op hop' => by obtain ⟨e, he, rfl⟩ := Go.Conc.mem_ofEvents hop'; exact touch_mute (hm e he)
  refine ⟨by simp [h.size], fun i' g1 h0 hlt hg1 => ?_, fun i' hi' => ?_, ?_, by rw [ne 0 (by omega), h.deaf0], fun i' hi' => by rw [ne _ (by omega), h.deafW i' hi'], fun k' hk' => by rw [ne k' (by omega)]; exact h.above k' hk', fun i' hi' hst => ?_, h.has, h.pay, hop⟩
  · by_cases e : i' = k
    · subst e
      rw [get_map_set_same _ _ _ (by rw [h.size]; omega)] at hg1
      cases hg1
      rw [upd_same, Deaf_own]
      exact hq
    · rw [get_map_set _ _ _ _ (fun x => e x.symm)] at hg1
      obtain ⟨y, hy, rfl⟩ := Option.map_eq_some_iff.1 hg1
      have hq := h.old i' y h0 hlt hy
      rw [woken_quitsD hq, ne i' e, upd_ne q _ e]
      exact hq
  · obtain ⟨y, hy, hsy⟩ := h.wk i' hi'
    exact ⟨y, by rw [get_map_set _ _ _ _ (by omega), hy, Option.map_some, hsy.woken], hsy⟩
  · have A := S.own (o := o)
    refine ⟨h.tr.ct.appW A (k := k) (by omega) (by omega) fun op hop' => ⟨g_of_ofEvents op hop', fun x hx => by rw [quiet op hop'] at hx; cases hx⟩, h.tr.norel.app (norel_of fun e he hl => (by have := hm e he; obtain ⟨l, _, _⟩ := e; have hl : l = _ := hl; subst hl; cases this)), hand_app h.tr.hand fun op hop' => .inr (.inr (quiet op hop')),
      known_app h.tr.known fun op hop' x hx => (by rw [quiet op hop'] at hx; cases hx), mem_app h.tr.mem fun op hop' x hx => (by rw [quiet op hop'] at hx; cases hx), seenT_app h.tr.seen fun op hop' => by obtain ⟨e, he, rfl⟩ := Go.Conc.mem_ofEvents hop'; exact lowT_of (low_mute (hm e he) _)⟩
  · obtain ⟨r, hr⟩ := h.rel i' hi' hst
    exact ⟨r, hr.appOther g_of_ofEvents (by omega)⟩

/-- A draw. -/
theorem PCom.at (hRes : ∀ i F v w w1, Res i F v w → Ext F w w1 → Res i F v w1) (h : PCom P ty o Wg C n SB Res j gs w t D q d0) (d : Nat) : PCom P ty o Wg C n SB Res j gs (w.at d) t D q d0 :=
  ⟨h.size, h.old, fun i hi => let ⟨g, hg, hs⟩ := h.wk i hi; ⟨g, hg, hs.rely hRes ⟨Nat.le_refl _, fun _ _ => rfl⟩ (RW.at w d)⟩, ⟨h.tr.ct, h.tr.norel, h.tr.hand, h.tr.known, h.tr.mem, h.tr.seen⟩, h.deaf0, h.deafW, h.above, h.rel, h.has, h.pay, h.opos⟩
end

end Go.Proofs.YtkpekiajdlolnabGreat.Ph

/-
  THE PHASE, tenth text: the go statement.
-/
namespace Go.Proofs.YtkpekiajdlolnabGreat.Ph
open Go Go.Conc Go.ConcN Go.Proofs.YtkpekiajdlolnabGreat.Sim
open Go.ConcR (KK WgAt stA smA rd wr mk Payload DC0 g_of_ofEvents)
variable [Payload]

section
variable {P : Program} {ty : TypeId} {o Wg C n : Nat} {SB : Blocks} {Res : Nat → Blocks → Value → World → Prop} {j : Nat} {gs : Array Goroutine} {w : World} {t : Trace} {D : Nat → WX} {q : Nat → Nat} {FM OM : Blocks}

theorem PCom.spawn (h : PCom P ty o Wg C n SB Res j gs w t D q 0) {x : WX} (S' : Sep Wg C SB (j + 1) (upd D j x) FM OM w) {a' child : Goroutine} (h9 : x.stage = 9) (hx : x.deaf = 0) (hs : WS P ty Wg C n Res j x child w)
    {fn : FuncId} {pos : String} {fn' : FuncId} {pos' : String} :
    PCom P ty o Wg C n SB Res (j + 1) ((gs.setIfInBounds 0 a').push child) w (t ++ #[{ g := 0, fn, pos, act := .go (o + j) }, { g := o + j, fn := fn', pos := pos', act := .start }]) (upd D j x) q 0 := by
  have hop := h.opos
  have quiet : ∀ op ∈ (#[{ g := 0, fn, pos, act := .go (o + j) }, { g := o + j, fn := fn', pos := pos', act := .start }] : Trace), op.act.touch? = none ∧ (op.g = 0 ∨ op.g = o + j) ∧ op.act ≠ .mark (.release (stA Wg)) ∧ LowT w.heap.size op.act := fun op hop' => by
    simp only [List.mem_toArray, List.mem_cons, List.not_mem_nil, or_false] at hop'
    rcases hop' with rfl | rfl
    · exact ⟨rfl, .inl rfl, by simp, lowT_of trivial⟩
    · exact ⟨rfl, .inr rfl, by simp, lowT_of trivial⟩
  have deaf : ∀ k, Deaf (t ++ #[{ g := 0, fn, pos, act := .go (o + j) }, { g := o + j, fn := fn', pos := pos', act := .start }]) k = Deaf t k := fun k => by
    have := Deaf_append t k [{ g := 0, fn, pos, act := .go (o + j) }, { g := o + j, fn := fn', pos := pos', act := .start }]
    rw [show (#[{ g := 0, fn, pos, act := .go (o + j) }, { g := o + j, fn := fn', pos := pos', act := .start }] : Trace) = [{ g := 0, fn, pos, act := .go (o + j) }, { g := o + j, fn := fn', pos := pos', act := .start }].toArray from rfl, this]
    simp [deafStep]
  have lt0 : ∀ (i : Nat), i < j → i ≠ j := fun i hi => Nat.ne_of_lt hi
  refine ⟨by simp [h.size]; omega, fun i' g1 h0 hlt hg1 => ?_, fun i' hi' => ?_, ?_, by rw [deaf, h.deaf0], fun i' hi' => ?_, fun k hk => by rw [deaf]; exact h.above k (by omega), fun i' hi' hst => ?_, fun i' hi' hst => ?_, h.pay, hop⟩
  · have hs1 : i' < (gs.setIfInBounds 0 a').size := by simp [h.size]; omega
    rw [Array.getElem?_push_lt hs1] at hg1
    have hg2 : gs[i']? = some g1 := by
      rw [← hg1, ← Array.getElem?_eq_getElem hs1, Array.getElem?_setIfInBounds_ne (by omega)]
    rw [deaf]
    exact h.old i' g1 h0 hlt hg2
  · by_cases e : i' = j
    · subst e
      refine ⟨child, ?_, by rw [upd_same]; exact hs⟩
      have : o + i' = (gs.setIfInBounds 0 a').size := by simp [h.size]
      rw [this]
      exact Array.getElem?_push_size
    · obtain ⟨y, hy, hsy⟩ := h.wk i' (by omega)
      refine ⟨y, ?_, by rw [upd_ne D _ e]; exact hsy⟩
      have hs1 : o + i' < (gs.setIfInBounds 0 a').size := by simp [h.size]; omega
      rw [Array.getElem?_push_lt hs1, ← Array.getElem?_eq_getElem hs1, Array.getElem?_setIfInBounds_ne (by omega)]
      exact hy
  · have same : ∀ k l, k ≤ o - 1 + j → (OwnD o C (j + 1) (upd D j x) k l ↔ OwnD o C j D k l) ∧ (RdD o (j + 1) (upd D j x) k l ↔ RdD o j D k l) := by
      intro k l hk
      refine ⟨⟨?_, ?_⟩, ⟨?_, ?_⟩⟩
      · rintro ⟨i, hi, rfl, h1⟩
        have e : i ≠ j := by omega
        rw [upd_ne D _ e] at h1
        exact ⟨i, by omega, rfl, h1⟩
      · rintro ⟨i, hi, rfl, h1⟩
        exact ⟨i, by omega, rfl, by rw [upd_ne D _ (lt0 i hi)]; exact h1⟩
      · rintro ⟨i, hi, rfl, h1⟩
        have e : i ≠ j := by omega
        rw [upd_ne D _ e] at h1
        exact ⟨i, by omega, rfl, h1⟩
      · rintro ⟨i, hi, rfl, h1⟩
        exact ⟨i, by omega, rfl, by rw [upd_ne D _ (lt0 i hi)]; exact h1⟩
    have ct0 := h.tr.ct
    have ct1 : CT (ShP Wg SB) (OwnD o C (j + 1) (upd D j x)) (RdD o (j + 1) (upd D j x)) t (o - 1 + j) :=
      ⟨ct0.quiet, fun k k1 kj l hl => ct0.own k k1 kj l ((same k l kj).1.1 hl), fun k k1 kj l hl => ct0.rd k k1 kj l ((same k l kj).2.1 hl),
        fun l hs hl => ct0.free l hs fun k k1 kj => ⟨fun y => (hl k k1 kj).1 ((same k l kj).1.2 y), fun y => (hl k k1 kj).2 ((same k l kj).2.2 y)⟩, fun l hs hl => ct0.mine l hs fun k k1 kj y => hl k k1 kj ((same k l kj).1.2 y), ct0.nr, ct0.gs⟩
    have e1 : o - 1 + j + 1 = o + j := by omega
    have ct2 := CT.fork S'.own ct1 (x := { g := 0, fn, pos, act := .go (o + j) }) (y := { g := o + j, fn := fn', pos := pos', act := .start }) ⟨rfl, by rw [e1]⟩ ⟨by rw [e1], rfl⟩ h.deaf0
    refine ⟨ct2, h.tr.norel.app fun op hop' => (quiet op hop').2.2.1, hand_app h.tr.hand fun op hop' => .inr (.inr (quiet op hop').1), known_app h.tr.known fun op hop' y hy => (by rw [(quiet op hop').1] at hy; cases hy), mem_app h.tr.mem fun op hop' y hy => (by rw [(quiet op hop').1] at hy; cases hy), seenT_app h.tr.seen fun op hop' => (quiet op hop').2.2.2⟩
  · by_cases e : i' = j
    · subst e; rw [deaf, upd_same, hx]; exact h.above _ (Nat.le_refl _)
    · rw [deaf, h.deafW i' (by omega), upd_ne D _ e]
  · by_cases e : i' = j
    · subst e; rw [upd_same] at hst; omega
    · rw [upd_ne D _ e] at hst
      obtain ⟨r, hr⟩ := h.rel i' (by omega) hst
      refine ⟨r, hr.app fun i hi hg hc => ?_⟩
      obtain ⟨y, hy, _⟩ := hc
      obtain ⟨op, hop', hoy⟩ := touch_of hy
      rcases getElem?_append_cases hop' with ⟨hlt, _⟩ | ⟨_, hou⟩
      · omega
      · rw [(quiet op hou).1] at hoy; cases hoy
  · by_cases e : i' = j
    · subst e; rw [upd_same] at hst; omega
    · rw [upd_ne D _ e] at hst ⊢
      exact h.has i' (by omega) hst
end

end Go.Proofs.YtkpekiajdlolnabGreat.Ph

/-
  THE PHASE, eleventh text: THE INVARIANT, whole; whatever step of a worker's.
-/
namespace Go.Proofs.YtkpekiajdlolnabGreat.Ph
open Go Go.Conc Go.ConcN Go.Proofs.YtkpekiajdlolnabGreat.Sim
open Go.ConcR (KK WgAt stA smA rd wr mk Payload DC0 g_of_ofEvents)
/-- how many are started, by the tag. -/
def JT (n : Nat) : Tag → Nat → Prop
  | .wg r, j => j + r = n
  | .kdS r, j | .ad r, j | .rs r, j | .en r, j | .gos r, j => j + r + 1 = n
  | _, j => j = n
def SSum (j : Nat) (D : Nat → WX) : Nat := sumTo j fun i => (D i).stage
def FSum (j : Nat) (D : Nat → WX) : Nat := sumTo j fun i => (D i).fuel
def ranks (n : Nat) (D : Nat → WX) (rk : Rank) : Nat → Rank := fun i => if i = n then rk else (D i).rank
/-- what stood below L0 when the phase began stands. -/
structure Kept (Wg C L0 : Nat) (w0 : World) (j : Nat) (D : Nat → WX) (OM : Blocks) (w : World) : Prop where
  keep : ∀ b, b < L0 → w.heap[b]? = w0.heap[b]?
  lW : L0 ≤ Wg
  lC : L0 ≤ C
  lO : ∀ i, i < j → ∀ b, (D i).O b → L0 ≤ b
  lM : ∀ b, OM b → L0 ≤ b
  tape : w.tape = w0.tape
  os : w.os = w0.os
  output : w.output = w0.output
  nb : NB w0 → NB w
theorem nb_of_block {w w' : World} {b : Nat} (_ : ∀ r, r ≠ b → w'.heap[r]? = w.heap[r]?) (_ : ∃ c e z, w'.heap[b]? = some (.cells c e z)) (_ : NB w) : NB w' := trivial

section
variable [Payload] (P : Program) (ty : TypeId) (o Wg C n : Nat) (SB : Blocks) (Res : Nat → Blocks → Value → World → Prop) (K : Goroutine → World → Prop) (L0 : Nat) (w0 : World)
def PInv (μ : Mea) (m : Machine) (t : Trace) : Prop :=
  ∃ (gs : Array Goroutine) (w : World) (sl : Option (Nat × Nat)) (j : Nat) (D : Nat → WX) (q : Nat → Nat) (tag : Tag) (f0 d0 : Nat) (rk : Rank) (FM OM : Blocks) (a : Goroutine) (st sm : Int),
    m = crowd gs w sl ∧ gs[0]? = some a ∧ MS P ty Wg C n Res K tag f0 d0 rk FM OM a w ∧ PCom P ty o Wg C n SB Res j gs w t D q d0 ∧ Sep Wg C SB j D FM OM w ∧ WgAt ty Wg w st sm ∧ Mo j (xd D) tag st sm ∧ JT n tag j ∧
    Kept Wg C L0 w0 j D OM w ∧ μ = (psi n (Vc j (xd D)) tag + SSum j D, ranks n D rk, f0 + 2 * FSum j D + 2 * sumTo o q)
end

theorem JT.retag {n j : Nat} {tag tag' : Tag} (h : JT n tag j) (e : tag' = tag ∨ (tag = .blk ∧ tag' = .sm)) : JT n tag' j := by
  rcases e with rfl | ⟨rfl, rfl⟩
  · exact h
  · exact h
theorem psi_retag (n v : Nat) {tag tag' : Tag} (e : tag' = tag ∨ (tag = .blk ∧ tag' = .sm)) : psi n v tag' = psi n v tag := by
  rcases e with rfl | ⟨rfl, rfl⟩ <;> rfl
theorem psi_mono (n : Nat) {v v' : Nat} (h : v' ≤ v) (tag : Tag) : psi n v' tag ≤ psi n v tag := by
  cases tag <;> simp only [psi] <;> omega
theorem JT.le {n j : Nat} {tag : Tag} (h : JT n tag j) : j ≤ n := by
  cases tag <;> simp only [JT] at h <;> omega

section
variable [Payload] {P : Program} {ty : TypeId} {o Wg C n : Nat} {SB : Blocks} {Res : Nat → Blocks → Value → World → Prop} {K : Goroutine → World → Prop} {L0 : Nat} {w0 : World} {gs : Array Goroutine} {w w' : World} {sl : Option (Nat × Nat)} {j : Nat} {D : Nat → WX} {q : Nat → Nat} {tag : Tag} {f0 d0 : Nat} {rk : Rank} {FM OM : Blocks} {a : Goroutine} {t : Trace}

/-- WHATEVER STEP OF WORKER NUMBER i. -/
theorem workerStep (hRes : ∀ i F v w w1, Res i F v w → Ext F w w1 → Res i F v w1) (ha : gs[0]? = some a) (hms : MS P ty Wg C n Res K tag f0 d0 rk FM OM a w) (hcom : PCom P ty o Wg C n SB Res j gs w t D q d0) (S : Sep Wg C SB j D FM OM w) (hjt : JT n tag j) (hk0 : Kept Wg C L0 w0 j D OM w)
    {i : Nat} (hi : i < j) {g g' : Goroutine} {es : Array Event} {x : WX} {st' sm' : Int} (hg : gs[o + i]? = some g) (hgo : stepG P false g w = .go g' w' es)
    (S' : Sep Wg C SB j (upd D i x) FM OM w') (hRM : RM ty Wg FM w w')
    (hoth : ∀ i', i' < j → i' ≠ i → Ext (D i').F w w' ∧ RW ty Wg C n 0 i' w w') (hs' : WS P ty Wg C n Res i x g' w') (hsz : w.heap.size ≤ w'.heap.size)
    (hF : ∀ b, (D i).F b → x.F b) (hO : ∀ b, (D i).O b → x.O b) (hF' : ∀ b, x.F b → (D i).F b ∨ w.heap.size ≤ b) (hO' : ∀ b, x.O b → (D i).O b ∨ w.heap.size ≤ b)
    (hk : ∀ e ∈ es, ∀ y, (MemAct.ofEvent e).touch? = some y → y.loc.isMemory = true ∧ ((ShP Wg SB y.loc ∧ y.kind = .atomic) ∨ (y.kind = .plain ∧ (OwnD o C j (upd D i x) (o + i) y.loc ∨ (RdD o j (upd D i x) (o + i) y.loc ∧ y.write = false)))))
    (hnr : ∀ e ∈ es, e.loc ≠ .mark (.release (stA Wg))) (hl : ∀ e ∈ es, LowT w'.heap.size (MemAct.ofEvent e))
    (hdeaf : deafBehind (D i).deaf es = x.deaf) (hrel : x.stage ≤ 6 → ∃ r, RelBy (stA Wg) (t ++ MemOp.ofEvents (o + i) g.frame.fn g.frame.place es) (o + i) r)
    (hhas : x.stage ≤ 6 → Has C i x.val w') (hpay : PayAt C n w') (hwg : WgAt ty Wg w' st' sm')
    (hmode : ∀ tag', (tag' = tag ∨ (tag = .blk ∧ tag' = .sm)) → (mayWake P g = true → g'.status = .running → tag' ≠ .blk) → Mo j (xd (upd D i x)) tag' st' sm')
    (hk1 : Kept Wg C L0 w0 j (upd D i x) OM w')
    (hlt : (x.stage < (D i).stage ∧ cnt (xd (upd D i x) i) ≤ cnt (xd D i)) ∨ (x.stage = (D i).stage ∧ Rank.sub x.rank (D i).rank) ∨ (x.stage = (D i).stage ∧ x.rank = (D i).rank ∧ x.fuel + 1 = (D i).fuel)) :
    ∃ m₁ ops μ', runT P (crowd gs w sl) (o + i) = (.next m₁, ops) ∧ MLt (n + 1) μ' (psi n (Vc j (xd D)) tag + SSum j D, ranks n D rk, f0 + 2 * FSum j D + 2 * sumTo o q) ∧ PInv P ty o Wg C n SB Res K L0 w0 μ' m₁ (t ++ ops) := by
  have hop := hcom.opos
  have hjn := hjt.le
  obtain ⟨tag', f', hms', hf', htag, hwk⟩ := hms.wokenBy hRM g g'
  have hrun := runT_crowd_go (P := P) (sl := sl) (i := o + i) hg (by rw [show (o + i == 0) = false from by simp; omega]; exact hgo)
  have hcom' := hcom.stepW (fn := g.frame.fn) (pos := g.frame.place) hRes S hi S' hoth hs' hsz hF hO hF' hO' hk hnr hl hdeaf hrel hhas hpay (g := g)
  refine ⟨_, _, _, hrun, ?_, _, w', sl, j, upd D i x, q, tag', f', d0, rk, FM, OM, woken P g g' w' a, st', sm', rfl, by rw [get_map_set _ _ _ _ (by omega), ha]; rfl, hms', hcom', S', hwg, hmode tag' htag hwk, hjt.retag htag, hk1, rfl⟩
  rw [psi_retag n _ htag]
  have e1 := sumTo_upd D x (fun d : WX => cnt ⟨if d.stage = 9 then 7 else d.stage, d.fuel, d.deaf⟩) hi
  have e2 := sumTo_upd D x WX.stage hi
  have e3 := sumTo_upd D x WX.fuel hi
  have c1 : cnt (xd (upd D i x) i) = cnt ⟨if x.stage = 9 then 7 else x.stage, x.fuel, x.deaf⟩ := by simp only [xd, upd_same]
  have v1 : Vc j (xd (upd D i x)) = sumTo j fun a => cnt ⟨if (upd D i x a).stage = 9 then 7 else (upd D i x a).stage, (upd D i x a).fuel, (upd D i x a).deaf⟩ := rfl
  have v2 : Vc j (xd D) = sumTo j fun a => cnt ⟨if (D a).stage = 9 then 7 else (D a).stage, (D a).fuel, (D a).deaf⟩ := rfl
  rcases hlt with ⟨h1, h2⟩ | ⟨h1, h2⟩ | ⟨h1, h2, h3⟩
  · refine Prod.Lex.left _ _ ?_
    rw [c1] at h2
    have h2' : cnt ⟨if x.stage = 9 then 7 else x.stage, x.fuel, x.deaf⟩ ≤ cnt ⟨if (D i).stage = 9 then 7 else (D i).stage, (D i).fuel, (D i).deaf⟩ := h2
    have := psi_mono n (v' := Vc j (xd (upd D i x))) (v := Vc j (xd D)) (by rw [v1, v2]; omega) tag
    simp only [SSum]
    omega
  · have ec : cnt ⟨if x.stage = 9 then 7 else x.stage, x.fuel, x.deaf⟩ = cnt ⟨if (D i).stage = 9 then 7 else (D i).stage, (D i).fuel, (D i).deaf⟩ := by simp only [cnt, h1]
    have ev : Vc j (xd (upd D i x)) = Vc j (xd D) := by rw [v1, v2]; omega
    have es : SSum j (upd D i x) = SSum j D := by simp only [SSum]; omega
    rw [ev, es]
    refine Prod.Lex.right _ (Prod.Lex.left _ _ ⟨i, by omega, ?_, fun k hk => ?_⟩)
    · simp only [ranks, upd_same]
      rw [if_neg (by omega), if_neg (by omega)]
      exact h2
    · simp only [ranks]
      rw [upd_ne D _ hk]
  · have ec : cnt ⟨if x.stage = 9 then 7 else x.stage, x.fuel, x.deaf⟩ = cnt ⟨if (D i).stage = 9 then 7 else (D i).stage, (D i).fuel, (D i).deaf⟩ := by simp only [cnt, h1]
    have ev : Vc j (xd (upd D i x)) = Vc j (xd D) := by rw [v1, v2]; omega
    have es : SSum j (upd D i x) = SSum j D := by simp only [SSum]; omega
    have er : ranks n (upd D i x) rk = ranks n D rk := by
      funext k
      simp only [ranks]
      by_cases e : k = i
      · subst e; rw [upd_same, h2]
      · rw [upd_ne D _ e]
    rw [ev, es, er]
    refine Prod.Lex.right _ (Prod.Lex.right _ ?_)
    simp only [FSum]
    omega
end

end Go.Proofs.YtkpekiajdlolnabGreat.Ph

/-
  THE PHASE, twelfth text: whatever step of the starter's, of a leaver's.
-/
namespace Go.Proofs.YtkpekiajdlolnabGreat.Ph
open Go Go.Conc Go.ConcN Go.Proofs.YtkpekiajdlolnabGreat.Sim
open Go.ConcR (KK WgAt stA smA rd wr mk Payload DC0 g_of_ofEvents)

section
variable [Payload] {P : Program} {ty : TypeId} {o Wg C n : Nat} {SB : Blocks} {Res : Nat → Blocks → Value → World → Prop} {K : Goroutine → World → Prop} {L0 : Nat} {w0 : World} {gs : Array Goroutine} {w w' : World} {sl : Option (Nat × Nat)} {j : Nat} {D : Nat → WX} {q : Nat → Nat} {tag : Tag} {f0 d0 : Nat} {rk : Rank} {FM OM : Blocks} {a : Goroutine} {t : Trace}

/-- WHATEVER STEP OF THE STARTER's THAT IS NO go STATEMENT. -/
theorem callerStep (hRes : ∀ i F v w w1, Res i F v w → Ext F w w1 → Res i F v w1) (ha : gs[0]? = some a) (hcom : PCom P ty o Wg C n SB Res j gs w t D q d0) (S : Sep Wg C SB j D FM OM w)
    {a' : Goroutine} {es : Array Event} {tag' : Tag} {f' : Nat} {rk' : Rank} {FM' OM' : Blocks} {st' sm' : Int} (hgo : stepG P true a w = .go a' w' es)
    (hms' : MS P ty Wg C n Res K tag' f' (deafBehind d0 es) rk' FM' OM' a' w') (S' : Sep Wg C SB j D FM' OM' w')
    (hoth : ∀ i, i < j → Ext (D i).F w w' ∧ RW ty Wg C n 0 i w w') (hsz : w.heap.size ≤ w'.heap.size)
    (hok : ∀ op ∈ MemOp.ofEvents 0 a.frame.fn a.frame.place es, Ok0 (ShP Wg SB) (OwnD o C j D) (RdD o j D) (o - 1 + j) op) (hm : ∀ e ∈ es, ∀ y, (MemAct.ofEvent e).touch? = some y → y.loc.isMemory = true)
    (hnr : ∀ e ∈ es, e.loc ≠ .mark (.release (stA Wg))) (hl : ∀ e ∈ es, LowT w'.heap.size (MemAct.ofEvent e)) (hpay : PayAt C n w')
    (hwg : WgAt ty Wg w' st' sm') (hmode : Mo j (xd D) tag' st' sm') (hjt : JT n tag' j) (hk1 : Kept Wg C L0 w0 j D OM' w')
    (hlt : psi n (Vc j (xd D)) tag' < psi n (Vc j (xd D)) tag ∨ (psi n (Vc j (xd D)) tag' = psi n (Vc j (xd D)) tag ∧ Rank.sub rk' rk) ∨ (psi n (Vc j (xd D)) tag' = psi n (Vc j (xd D)) tag ∧ rk' = rk ∧ f' < f0)) :
    ∃ m₁ ops μ', runT P (crowd gs w sl) 0 = (.next m₁, ops) ∧ MLt (n + 1) μ' (psi n (Vc j (xd D)) tag + SSum j D, ranks n D rk, f0 + 2 * FSum j D + 2 * sumTo o q) ∧ PInv P ty o Wg C n SB Res K L0 w0 μ' m₁ (t ++ ops) := by
  have hop := hcom.opos
  have hjn := hjt.le
  have hrun := runT_crowd_go (P := P) (sl := sl) (i := 0) ha (show stepG P (0 == 0) a w = _ from hgo)
  have hcom' := hcom.step0 (fn := a.frame.fn) (pos := a.frame.place) hRes S hoth hsz hok hm hnr hl hpay (a := a) (a' := a')
  refine ⟨_, _, _, hrun, ?_, _, w', sl, j, D, q, tag', f', deafBehind d0 es, rk', FM', OM', a', st', sm', rfl, get_map_set_same _ _ _ (by rw [hcom.size]; omega), hms', hcom', S', hwg, hmode, hjt, hk1, rfl⟩
  rcases hlt with h | ⟨h1, h2⟩ | ⟨h1, h2, h3⟩
  · exact Prod.Lex.left _ _ (by omega)
  · rw [h1]
    refine Prod.Lex.right _ (Prod.Lex.left _ _ ⟨n, by omega, by simp only [ranks, if_true]; exact h2, fun k hk => ?_⟩)
    simp only [ranks]
    rw [if_neg hk, if_neg hk]
  · rw [h1, h2]
    exact Prod.Lex.right _ (Prod.Lex.right _ (by omega))

/-- A STEP OF AN OLD LEAVER's. -/
theorem oldStep (ha : gs[0]? = some a) (hms : MS P ty Wg C n Res K tag f0 d0 rk FM OM a w) (hcom : PCom P ty o Wg C n SB Res j gs w t D q d0) (S : Sep Wg C SB j D FM OM w) (hjt : JT n tag j) (hk0 : Kept Wg C L0 w0 j D OM w)
    {st sm : Int} (hwg : WgAt ty Wg w st sm) (hmode : ∀ tag', (tag' = tag ∨ (tag = .blk ∧ tag' = .sm)) → Mo j (xd D) tag' st sm) {k : Nat} (k0 : 0 < k) (ko : k < o) {g : Goroutine} (hg : gs[k]? = some g) (hrun : g.status = .running) :
    ∃ m₁ ops μ', runT P (crowd gs w sl) k = (.next m₁, ops) ∧ MLt (n + 1) μ' (psi n (Vc j (xd D)) tag + SSum j D, ranks n D rk, f0 + 2 * FSum j D + 2 * sumTo o q) ∧ PInv P ty o Wg C n SB Res K L0 w0 μ' m₁ (t ++ ops) := by
  have hq := hcom.old k g k0 ko hg
  cases hqk : q k with
  | zero => rw [hqk] at hq; rw [hq.1] at hrun; cases hrun
  | succ q1 =>
    rw [hqk] at hq
    rcases hq with ⟨hf, _⟩ | ⟨_, g', es, hm, hstp, hq'⟩
    · rw [hf] at hrun; cases hrun
    have hrunT := runT_crowd_go (P := P) (sl := sl) (i := k) hg (by rw [show (k == 0) = false from by simp; omega]; exact hstp w)
    obtain ⟨tag', f', hms', hf', htag, hwk⟩ := hms.wokenBy (rm_refl w) g g'
    refine ⟨_, _, _, hrunT, ?_, _, w, sl, j, D, upd q k q1, tag', f', d0, rk, FM, OM, woken P g g' w a, st, sm, rfl, by rw [get_map_set _ _ _ _ (by omega), ha]; rfl, hms', hcom.stepOld S k0 ko hm hq', S, hwg, hmode tag' htag, hjt.retag htag, hk0, rfl⟩
    rw [psi_retag n _ htag]
    have hsum : sumTo o (upd q k q1) + (q1 + 1) = sumTo o q + q1 := by
      have := sumTo_upd q q1 id ko
      simpa [hqk] using this
    exact Prod.Lex.right _ (Prod.Lex.right _ (by omega))
end

end Go.Proofs.YtkpekiajdlolnabGreat.Ph

/-
  THE PHASE, thirteenth text: A WORKER's OWN STEP (its walk; the store).
-/
namespace Go.Proofs.YtkpekiajdlolnabGreat.Ph
open Go Go.Conc Go.ConcN Go.Proofs.YtkpekiajdlolnabGreat.Sim
open Go.ConcR (KK WgAt stA smA rd wr mk Payload DC0 g_of_ofEvents)

section
variable [Payload] {P : Program} {ty : TypeId} {o Wg C n : Nat} {SB : Blocks} {Res : Nat → Blocks → Value → World → Prop} {K : Goroutine → World → Prop} {L0 : Nat} {w0 : World} {gs : Array Goroutine} {w w' : World} {sl : Option (Nat × Nat)} {j : Nat} {D : Nat → WX} {q : Nat → Nat} {tag : Tag} {f0 d0 : Nat} {rk : Rank} {FM OM : Blocks} {a : Goroutine} {t : Trace} {st sm : Int}

theorem rw_same {i : Nat} (hW : w'.heap[Wg]? = w.heap[Wg]?) (hC : w'.heap[C]? = w.heap[C]?) : RW ty Wg C n 0 i w w' :=
  ⟨fun b hb => absurd hb (Nat.not_lt_zero b), fun ⟨s, m, h⟩ => ⟨s, m, by unfold WgAt at *; rw [hW]; exact h⟩, fun ⟨cs, h1, h2⟩ => ⟨cs, by rw [hC]; exact h1, h2⟩, cell_of_block hC i⟩


omit [Payload] in
theorem Mo.congr {D D' : Nat → WD} {tag : Tag} (h : ∀ a, a < j → (D' a).stage = (D a).stage) (hm : Mo j D tag st sm) : Mo j D' tag st sm := by
  have hv : Vc j D' = Vc j D := sumTo_congr fun a ha => by simp only [cnt, h a ha]
  cases hm with
  | opn h1 h2 h3 => rw [← hv]; exact .opn h1 (fun a ha => by rw [h a ha]; exact h2 a ha) (fun vs e => by rw [hv]; exact h3 vs e)
  | reg h1 h2 h3 => rw [← hv]; exact .reg h1 (fun a ha => by rw [h a ha]; exact h2 a ha) (by rw [hv]; exact h3)
  | last L h1 h2 h3 h4 => rw [← h L h2]; exact .last L h1 h2 (by rw [h L h2]; exact h3) (fun a ha e => by rw [h a ha]; exact h4 a ha e)
  | sema h1 h2 => exact .sema h1 fun a ha => by rw [h a ha]; exact h2 a ha
  | fin h1 h2 => exact .fin h1 fun a ha => by rw [h a ha]; exact h2 a ha
omit [Payload] in
theorem Mo.retag {D : Nat → WD} {tag tag' : Tag} (h : Mo j D tag st sm) (e : tag' = tag ∨ (tag = .blk ∧ tag' = .sm)) : Mo j D tag' st sm := by
  rcases e with rfl | ⟨rfl, rfl⟩
  · exact h
  · cases h with
    | opn h1 _ _ => exact h1.elim
    | reg _ h2 h3 => exact .reg trivial h2 h3
    | last L _ h2 h3 h4 => exact .last L trivial h2 h3 h4
    | sema h1 _ => rcases h1 with h1 | h1 <;> cases h1
    | fin h1 _ => exact h1.elim

omit [Payload] in
theorem touch_evF {F O : Blocks} {e : Event} (h : EvF F O e) {y : Touch} (hy : (MemAct.ofEvent e).touch? = some y) : y.loc.isMemory = true ∧ y.kind = .plain ∧ locIn F y.loc ∧ (y.write = true → locIn O y.loc) := by
  obtain ⟨loc, wt, sy⟩ := e
  cases loc with
  | cell b =>
    obtain ⟨h1, h2, h3⟩ := h
    have h1 : sy = false := h1
    subst h1
    rw [ofEvent_cell0] at hy
    simp only [MemAct.touch?, Option.some.injEq] at hy
    subst hy
    exact ⟨rfl, rfl, h2, h3⟩
  | obj r =>
    obtain ⟨h1, h2, h3⟩ := h
    have h1 : sy = false := h1
    subst h1
    have e0 : MemAct.ofEvent ⟨.obj r, wt, false⟩ = .access ⟨.obj r, wt, false⟩ := by cases wt <;> rfl
    rw [e0] at hy
    simp only [MemAct.touch?, Option.some.injEq] at hy
    subst hy
    exact ⟨rfl, rfl, h2, h3⟩
  | mark m =>
    cases m with
    | noRoom => simp [MemAct.ofEvent, MemAct.touch?] at hy
    | _ => exact h.elim
  | _ => exact h.elim
omit [Payload] in
theorem evF_facts {F O : Blocks} {e : Event} (h : EvF F O e) {B : Nat} (hB : ∀ b, F b → b < B) : e.loc ≠ .mark .disable ∧ e.loc ≠ .mark .enable ∧ e.loc ≠ .mark (.release (stA Wg)) ∧ (MemAct.ofEvent e).low B := by
  have := evL_of (SB := fun _ => False) h (fun _ _ x => x) hB
  refine ⟨this.2.1, this.2.2.1, fun hl => ?_, this.2.2.2⟩
  obtain ⟨loc, wt, sy⟩ := e
  have hl : loc = _ := hl
  subst hl
  exact h
end

end Go.Proofs.YtkpekiajdlolnabGreat.Ph

/-
  THE PHASE, fourteenth text: A WORKER's OWN STEP: a step of its walk; the store.
-/
namespace Go.Proofs.YtkpekiajdlolnabGreat.Ph
open Go Go.Conc Go.ConcN Go.Proofs.YtkpekiajdlolnabGreat.Sim
open Go.ConcR (KK WgAt stA smA rd wr mk Payload DC0 g_of_ofEvents)

section
variable [Payload] {P : Program} {ty : TypeId} {o Wg C n : Nat} {SB : Blocks} {Res : Nat → Blocks → Value → World → Prop} {K : Goroutine → World → Prop} {L0 : Nat} {w0 : World} {gs : Array Goroutine} {w w' : World} {sl : Option (Nat × Nat)} {j : Nat} {D : Nat → WX} {q : Nat → Nat} {tag : Tag} {f0 d0 : Nat} {rk : Rank} {FM OM : Blocks} {a : Goroutine} {t : Trace} {st sm : Int}

omit [Payload] in
theorem Sep.stepW (S : Sep Wg C SB j D FM OM w) {i : Nat} (hi : i < j) {x : WX} (hsz : w.heap.size ≤ w'.heap.size) (hF' : ∀ b, x.F b → (D i).F b ∨ w.heap.size ≤ b) (hO' : ∀ b, x.O b → (D i).O b ∨ w.heap.size ≤ b) (hown : ∀ b, x.O b → x.F b) (hlow : ∀ b, x.F b → b < w'.heap.size) : Sep Wg C SB j (upd D i x) FM OM w' := by
  have lW := S.lW
  have lC := S.lC
  refine ⟨fun i' hi' b hb => ?_, fun i' hi' b hb => ?_, fun i1 i2 h1 h2 hne b hb hb2 => ?_, fun b hb => ?_, fun b hb => ?_, Nat.lt_of_lt_of_le S.lW hsz, Nat.lt_of_lt_of_le S.lC hsz, fun b hb => Nat.lt_of_lt_of_le (S.lS b hb) hsz, S.hCW, S.sW, S.sC⟩
  · by_cases e : i' = i
    · subst e
      rw [upd_same] at hb
      refine ⟨hlow b hb, ?_⟩
      rcases hF' b hb with h | h
      · exact (S.wF i' hi' b h).2
      · exact ⟨by omega, by omega, fun hs => by have := S.lS b hs; omega⟩
    · rw [upd_ne D _ e] at hb
      have := S.wF i' hi' b hb
      exact ⟨by omega, this.2⟩
  · by_cases e : i' = i
    · subst e; rw [upd_same] at hb ⊢; exact hown b hb
    · rw [upd_ne D _ e] at hb ⊢; exact S.wO i' hi' b hb
  · by_cases e1 : i1 = i
    · subst e1
      rw [upd_same] at hb
      rw [upd_ne D _ (fun h => hne h.symm)] at hb2
      rcases hO' b hb with h | h
      · exact S.apart _ _ h1 h2 hne b h hb2
      · have := (S.wF i2 h2 b hb2).1; omega
    · rw [upd_ne D _ e1] at hb
      by_cases e2 : i2 = i
      · subst e2
        rw [upd_same] at hb2
        rcases hF' b hb2 with h | h
        · exact S.apart _ _ h1 h2 hne b hb h
        · have := (S.wF i1 h1 b (S.wO i1 h1 b hb)).1; omega
      · rw [upd_ne D _ e2] at hb2
        exact S.apart _ _ h1 h2 hne b hb hb2
  · have := S.mF b hb
    refine ⟨by omega, this.2.1, this.2.2.1, this.2.2.2.1, fun i' hi' ho => ?_⟩
    by_cases e : i' = i
    · subst e
      rw [upd_same] at ho
      rcases hO' b ho with h | h
      · exact this.2.2.2.2 i' hi' h
      · omega
    · rw [upd_ne D _ e] at ho
      exact this.2.2.2.2 i' hi' ho
  · have h1 := S.mO b hb
    have h2 := S.mF b h1.1
    refine ⟨h1.1, fun i' hi' hf => ?_⟩
    by_cases e : i' = i
    · subst e
      rw [upd_same] at hf
      rcases hF' b hf with h | h
      · exact h1.2 i' hi' h
      · omega
    · rw [upd_ne D _ e] at hf
      exact h1.2 i' hi' hf

omit [Payload] in
/-- what stands below where the phase began. -/
theorem Kept.stepW (h : Kept Wg C L0 w0 j D OM w) {i : Nat} {x : WX} (hl0 : L0 ≤ w.heap.size) (hkeep : ∀ b, b < L0 → w'.heap[b]? = w.heap[b]?) (hO' : ∀ b, x.O b → (D i).O b ∨ w.heap.size ≤ b) (ht : w'.tape = w.tape) (hos : w'.os = w.os) (hout : w'.output = w.output) (hnb : NB w → NB w') : Kept Wg C L0 w0 j (upd D i x) OM w' := by
  refine ⟨fun b hb => (hkeep b hb).trans (h.keep b hb), h.lW, h.lC, fun i' hi' b hb => ?_, h.lM, ht.trans h.tape, hos.trans h.os, hout.trans h.output, fun x => hnb (h.nb x)⟩
  by_cases e : i' = i
  · subst e
    rw [upd_same] at hb
    rcases hO' b hb with y | y
    · exact h.lO i' hi' b y
    · omega
  · rw [upd_ne D _ e] at hb
    exact h.lO i' hi' b hb

/-- A STEP OF A WORKER's WALK. -/
theorem ownStep (hRes : ∀ i F v w w1, Res i F v w → Ext F w w1 → Res i F v w1) (ha : gs[0]? = some a) (hms : MS P ty Wg C n Res K tag f0 d0 rk FM OM a w) (hcom : PCom P ty o Wg C n SB Res j gs w t D q d0) (S : Sep Wg C SB j D FM OM w) (hjt : JT n tag j) (hk0 : Kept Wg C L0 w0 j D OM w)
    (hwg : WgAt ty Wg w st sm) (hmode : Mo j (xd D) tag st sm) {i : Nat} (hi : i < j) {g : Goroutine} (hg : gs[o + i]? = some g) (h9 : (D i).stage = 9) (hd : (D i).deaf = 0) {f : World → Rank} (hrk : (D i).rank = .node f)
    (hw : WGo P false (AtStore P ty Wg C n Res i) (.node f) (D i).F (D i).O g w) :
    ∃ m₁ ops μ', runT P (crowd gs w sl) (o + i) = (.next m₁, ops) ∧ MLt (n + 1) μ' (psi n (Vc j (xd D)) tag + SSum j D, ranks n D rk, f0 + 2 * FSum j D + 2 * sumTo o q) ∧ PInv P ty o Wg C n SB Res K L0 w0 μ' m₁ (t ++ ops) := by
  obtain ⟨F', O', g', w', es, hgo, ok, hw'⟩ := hw.2 w (Ext.refl ..)
  have lW := S.lW
  have lC := S.lC
  have nO : ∀ b, (D i).O b → b ≠ Wg ∧ b ≠ C := fun b hb => ⟨(S.wF i hi b (S.wO i hi b hb)).2.1, (S.wF i hi b (S.wO i hi b hb)).2.2.1⟩
  have hW : w'.heap[Wg]? = w.heap[Wg]? := ok.keep Wg lW fun h => (nO Wg h).1 rfl
  have hC : w'.heap[C]? = w.heap[C]? := ok.keep C lC fun h => (nO C h).2 rfl
  let x : WX := ⟨9, 0, 0, f w, F', O', (D i).val⟩
  have S' : Sep Wg C SB j (upd D i x) FM OM w' := S.stepW hi (x := x) ok.size ok.new ok.newO ok.own ok.low
  have hwg' : WgAt ty Wg w' st sm := by unfold WgAt at *; rw [hW]; exact hwg
  refine workerStep hRes ha hms hcom S hjt hk0 hi hg hgo (x := x) S' ⟨⟨ok.size, fun b hb => ok.keep b (S.mF b hb).1 ((S.mF b hb).2.2.2.2 i hi)⟩, fun _ => ⟨_, _, hwg'⟩⟩
    (fun i' hi' hne => ⟨⟨ok.size, fun b hb => ok.keep b (S.wF i' hi' b hb).1 fun ho => S.apart i i' hi hi' (fun e => hne e.symm) b ho hb⟩, rw_same hW hC⟩)
    (.own rfl rfl rfl hw') ok.size ok.sub ok.subO ok.new ok.newO (fun e he y hy => ?_) (fun e he => (evF_facts (ok.ev e he) ok.low).2.2.1) (fun e he => lowT_of (evF_facts (Wg := Wg) (ok.ev e he) ok.low).2.2.2)
    ?_ (fun h => absurd (show 9 ≤ 6 from h) (by decide)) (fun h => absurd (show 9 ≤ 6 from h) (by decide)) ?_ hwg' (fun tag' ht _ => (hmode.congr fun a' _ => ?_).retag ht) ?_ (.inr (.inl ⟨h9.symm, by rw [hrk]; exact ⟨w, rfl⟩⟩))
  · obtain ⟨h1, h2, h3, h4⟩ := touch_evF (ok.ev e he) hy
    refine ⟨h1, .inr ⟨h2, ?_⟩⟩
    by_cases ho : locIn O' y.loc
    · exact .inl ⟨i, hi, rfl, .inl (by rw [upd_same]; exact ho)⟩
    · refine .inr ⟨⟨i, hi, rfl, ?_⟩, by cases hyw : y.write with | false => rfl | true => exact absurd (h4 hyw) ho⟩
      rw [upd_same]
      show locIn (fun b => F' b ∧ ¬ O' b) y.loc
      generalize y.loc = l at h3 ho
      cases l with
      | cell c => exact ⟨h3, ho⟩
      | obj c => exact ⟨h3, ho⟩
      | _ => exact h3.elim
  · rw [hd]
    exact deafBehind_idle (fun e he => ⟨(evF_facts (Wg := Wg) (ok.ev e he) ok.low).1, (evF_facts (Wg := Wg) (ok.ev e he) ok.low).2.1⟩) 0
  · obtain ⟨cs, h1, h2⟩ := hcom.pay
    exact ⟨cs, by rw [hC]; exact h1, h2⟩
  · by_cases e : a' = i
    · subst e; simp only [xd, upd_same, h9, x]
    · simp only [xd]; rw [upd_ne D _ e]
  · exact hk0.stepW (x := x) (Nat.le_trans hk0.lW (Nat.le_of_lt lW)) (fun b hb => ok.keep b (Nat.lt_of_lt_of_le hb (Nat.le_trans hk0.lW (Nat.le_of_lt lW))) fun ho => by have := hk0.lO i hi b ho; omega) ok.newO ok.tape ok.os ok.output ok.nb
end

end Go.Proofs.YtkpekiajdlolnabGreat.Ph

/-
  THE PHASE, fifteenth text: A WORKER's STORE; ITS STEPS IN THE LIBRARY.
-/
namespace Go.Proofs.YtkpekiajdlolnabGreat.Ph
open Go Go.Conc Go.ConcN Go.Proofs.YtkpekiajdlolnabGreat.Sim
open Go.ConcR (KK WgAt stA smA rd wr mk Payload DC0 g_of_ofEvents Bk bk_of_mute ofEvent_loc_mark ofEvent_cell)

section
variable [Payload] {C n i : Nat} {w : World}
theorem asideCell_set (hp : PayAt C n w) (v : Value) : AsideCell C n i w (w.setCell ⟨C, i, none⟩ v) := by
  have hA := aside_setCell w ⟨C, i, none⟩ v
  obtain ⟨arr, h1, h2⟩ := hp
  have hb : (w.setCell ⟨C, i, none⟩ v).heap[C]? = some (.cells (arr.setIfInBounds i v) Payload.ety) := by
    rw [setCell_eq_setRow w C i arr _ (0, 0) _ h1, setRow_heap w C _ _ _ _ h1]
  refine ⟨hA.tape, hA.os, hA.output, hA.size, fun b hb' => hA.block b hb', fun _ => ⟨_, hb, by simpa using h2⟩, fun i' hi' => ?_⟩
  simp [World.cell?, hb, h1, Array.getElem?_setIfInBounds_ne (Ne.symm hi')]
theorem has_set (hp : PayAt C n w) (hj : i < n) (v : Value) : Has C i v (w.setCell ⟨C, i, none⟩ v) := by
  obtain ⟨arr, h1, h2⟩ := hp
  have hb : (w.setCell ⟨C, i, none⟩ v).heap[C]? = some (.cells (arr.setIfInBounds i v) Payload.ety) := by
    rw [setCell_eq_setRow w C i arr _ (0, 0) _ h1, setRow_heap w C _ _ _ _ h1]
  simp [Has, World.cell?, hb, h2, hj]
omit [Payload] in
theorem lowT_bk {Wg B : Nat} (hW : Wg < B) {e : Event} (h : Bk Wg e) : LowT B (MemAct.ofEvent e) := by
  intro y hy
  rcases h with h1 | h1 | ⟨a, wr, rfl, ha⟩
  · rw [ofEvent_loc_mark h1] at hy; cases hy
  · rw [ofEvent_loc_mark h1] at hy; cases hy
  · rw [ofEvent_cell] at hy
    simp only [MemAct.touch?, Option.some.injEq] at hy
    subst hy
    show a.block < B
    omega
end

section
variable [Payload] {P : Program} {ty : TypeId} {o Wg C n : Nat} {SB : Blocks} {Res : Nat → Blocks → Value → World → Prop} {K : Goroutine → World → Prop} {L0 : Nat} {w0 : World} {gs : Array Goroutine} {w w' : World} {sl : Option (Nat × Nat)} {j : Nat} {D : Nat → WX} {q : Nat → Nat} {tag : Tag} {f0 d0 : Nat} {rk : Rank} {FM OM : Blocks} {a : Goroutine} {t : Trace} {st sm : Int}

omit [Payload] in
/-- a worker's data laid anew with the same places. -/
theorem Sep.same (S : Sep Wg C SB j D FM OM w) {i : Nat} (hi : i < j) {x : WX} (hF : x.F = (D i).F) (hO : x.O = (D i).O) (hsz : w.heap.size ≤ w'.heap.size) : Sep Wg C SB j (upd D i x) FM OM w' :=
  S.stepW hi hsz (fun b hb => .inl (hF ▸ hb)) (fun b hb => .inl (hO ▸ hb)) (fun b hb => by rw [hF]; rw [hO] at hb; exact S.wO i hi b hb) (fun b hb => by rw [hF] at hb; have := (S.wF i hi b hb).1; omega)

/-- THE STORE. -/
theorem storeStep (hRes : ∀ i F v w w1, Res i F v w → Ext F w w1 → Res i F v w1) (ha : gs[0]? = some a) (hms : MS P ty Wg C n Res K tag f0 d0 rk FM OM a w) (hcom : PCom P ty o Wg C n SB Res j gs w t D q d0) (S : Sep Wg C SB j D FM OM w) (hjt : JT n tag j) (hk0 : Kept Wg C L0 w0 j D OM w)
    (hwg : WgAt ty Wg w st sm) (hmode : Mo j (xd D) tag st sm) {i : Nat} (hi : i < j) {g : Goroutine} (hg : gs[o + i]? = some g) (h9 : (D i).stage = 9) (hd : (D i).deaf = 0)
    (hs : AtStore P ty Wg C n Res i (D i).F (D i).O g w) :
    ∃ m₁ ops μ', runT P (crowd gs w sl) (o + i) = (.next m₁, ops) ∧ MLt (n + 1) μ' (psi n (Vc j (xd D)) tag + SSum j D, ranks n D rk, f0 + 2 * FSum j D + 2 * sumTo o q) ∧ PInv P ty o Wg C n SB Res K L0 w0 μ' m₁ (t ++ ops) := by
  obtain ⟨_, v, hres, hx⟩ := hs
  obtain ⟨g', hgo, m, hk⟩ := hx w (Ext.refl ..) hcom.pay ⟨_, _, hwg⟩
  have lW := S.lW
  have lC := S.lC
  have hA : AsideCell C n i w (w.setCell ⟨C, i, none⟩ v) := asideCell_set hcom.pay v
  let x : WX := ⟨7, m, 0, .leaf, (D i).F, (D i).O, v⟩
  have S' : Sep Wg C SB j (upd D i x) FM OM (w.setCell ⟨C, i, none⟩ v) := S.same hi (x := x) rfl rfl (by rw [hA.size]; exact Nat.le_refl _)
  have hwg' : WgAt ty Wg (w.setCell ⟨C, i, none⟩ v) st sm := hwg.of_block (hA.block Wg (Ne.symm S.hCW))
  have hext : ∀ {F : Blocks}, ¬ F C → Ext F w (w.setCell ⟨C, i, none⟩ v) := fun hn => ⟨by rw [hA.size]; exact Nat.le_refl _, fun b hb => hA.block b fun e => hn (e ▸ hb)⟩
  have hFC : ∀ i', i' < j → ¬ (D i').F C := fun i' hi' h => (S.wF i' hi' C h).2.2.1 rfl
  refine workerStep hRes ha hms hcom S hjt hk0 hi hg hgo (x := x) S' ⟨hext fun h => (S.mF C h).2.2.1 rfl, fun _ => ⟨_, _, hwg'⟩⟩
    (fun i' hi' hne => ⟨hext (hFC i' hi'), RW.of_cell hA hne S.hCW⟩)
    (.lib (.r0 hk) (hRes _ _ _ _ _ hres (hext (hFC i hi)))) (by rw [hA.size]; exact Nat.le_refl _) (fun _ h => h) (fun _ h => h) (fun _ h => .inl h) (fun _ h => .inl h) (fun e he y hy => ?_) (fun e he => ?_) (fun e he y hy => ?_)
    ?_ (fun h => absurd (show 7 ≤ 6 from h) (by decide)) (fun h => absurd (show 7 ≤ 6 from h) (by decide)) (hA.pay hcom.pay) hwg' (fun tag' ht _ => (hmode.congr fun a' _ => ?_).retag ht) ?_ (.inl ⟨by rw [h9]; exact (by decide : 7 < 9), ?_⟩)
  · simp only [List.mem_toArray, List.mem_singleton] at he
    subst he
    rw [ofEvent_cell0] at hy
    simp only [MemAct.touch?, Option.some.injEq] at hy
    subst hy
    exact ⟨rfl, .inr ⟨rfl, .inl ⟨i, hi, rfl, .inr rfl⟩⟩⟩
  · simp only [List.mem_toArray, List.mem_singleton] at he
    subst he
    simp
  · simp only [List.mem_toArray, List.mem_singleton] at he
    subst he
    rw [ofEvent_cell0] at hy
    simp only [MemAct.touch?, Option.some.injEq] at hy
    subst hy
    show C < _
    rw [hA.size]; exact lC
  · rw [hd]; rfl
  · by_cases e : a' = i
    · subst e; simp only [xd, upd_same, h9, x]; decide
    · simp only [xd]; rw [upd_ne D _ e]
  · refine hk0.stepW (x := x) (Nat.le_trans hk0.lW (Nat.le_of_lt lW)) (fun b hb => hA.block b fun e => ?_) (fun b hb => .inl hb) hA.tape hA.os hA.output (nb_of_block hA.block (let ⟨_, h, _⟩ := hA.pay hcom.pay; ⟨_, _, _, h⟩))
    have := hk0.lC; omega
  · simp only [xd, upd_same, h9, x]; simp [cnt]
end

end Go.Proofs.YtkpekiajdlolnabGreat.Ph
