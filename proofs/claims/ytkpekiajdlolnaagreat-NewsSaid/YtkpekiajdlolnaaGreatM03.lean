/-
  PROVED IN PARTS: text 3 of 11 of the carrying ground of the claim (see each part's own remark). Conditions: those that each theorem names.
-/
import Derived.Test.YtkpekiajdlolnaaGreatM02
import Derived.Conc.Beside
import Derived.Conc.CrowdTrace
import Derived.Conc.WgGenN3
import Derived.Conc.CrowdStepW

/-
  THE SIMULATION, thirteenth text: a reckoning reads the tape only where it draws.
-/
namespace Go.Proofs.YtkpekiajdlolnaaGreat.Sim
open Go Go.Conc

/-- the world with another tape. -/
def re (w : World) (τ : Tape) : World := { w with tape := τ }
def rw0 {α : Type} : Result α → World | .ok _ w => w | .halt _ w => w
def rre {α : Type} (τ : Tape) : Result α → Result α | .ok a w => .ok a (re w τ) | .halt h w => .halt h (re w τ)

theorem seen_re (P : Program) (w : World) (τ : Tape) (a : Addr) (u : TypeId) (k : Addr) (b : Bool) : (re w τ).seen P a u k b = w.seen P a u k b := rfl
theorem viewLoad_re (P : Program) (w : World) (τ : Tape) (a : Addr) (u : TypeId) (k : Addr) (b : Bool) : (re w τ).viewLoad P a u k b = w.viewLoad P a u k b := rfl
theorem farLoad_re (P : Program) (w : World) (τ : Tape) (a : Addr) (b : Bool) : (re w τ).farLoad P a b = w.farLoad P a b := rfl
theorem bind_two {A : Type} {w : World} {τ : Tape} (fo : Except String A) (g g' : A → Except String (World × List Addr)) (h : ∀ c, ∃ h l, g c = .ok ({ w with heap := h }, l) ∧ g' c = .ok (re { w with heap := h } τ, l)) :
    (∃ e, (fo >>= g) = .error e ∧ (fo >>= g') = .error e) ∨ ∃ h l, (fo >>= g) = .ok ({ w with heap := h }, l) ∧ (fo >>= g') = .ok (re { w with heap := h } τ, l) := by
  cases fo with
  | error e => exact .inl ⟨e, rfl, rfl⟩
  | ok c => exact .inr (h c)
theorem viewStore_re (P : Program) (w : World) (τ : Tape) (a : Addr) (u : TypeId) (k : Addr) (v : Value) (b : Bool) :
    (∃ e, w.viewStore P a u k v b = .error e ∧ (re w τ).viewStore P a u k v b = .error e) ∨
    ∃ h l, w.viewStore P a u k v b = .ok ({ w with heap := h }, l) ∧ (re w τ).viewStore P a u k v b = .ok (re { w with heap := h } τ, l) := by
  unfold World.viewStore
  rw [seen_re]
  generalize w.seen P a u k b = r
  generalize tight P P.depth u = t
  cases t with
  | false => exact .inl ⟨_, rfl, rfl⟩
  | true =>
    cases r with
    | error e => exact .inl ⟨_, rfl, rfl⟩
    | ok r =>
      obtain ⟨c, e, frozen, first, like, cells⟩ := r
      generalize v.bytes? = vb
      cases vb with
      | none => exact .inl ⟨_, rfl, rfl⟩
      | some bs =>
        dsimp only
        by_cases hb : some bs.length ≠ like.bytes?.map (·.length)
        · left
          refine ⟨_, if_pos hb, ?_⟩
          exact if_pos hb
        · rcases bind_two (cells.foldlM (init := c) _) (fun c => pure ({ w with heap := w.heap.setIfInBounds a.block (.cells c e frozen) }, cells.map fun (i, _, _) => { block := a.block, off := i }))
            (fun c => pure ({ re w τ with heap := w.heap.setIfInBounds a.block (.cells c e frozen) }, cells.map fun (i, _, _) => { block := a.block, off := i })) (w := w) (τ := τ) (fun c => ⟨_, _, rfl, rfl⟩) with ⟨e1, h1, h2⟩ | ⟨h, l, h1, h2⟩
          · exact .inl ⟨e1, (if_neg hb).trans h1, (if_neg hb).trans h2⟩
          · exact .inr ⟨h, l, (if_neg hb).trans h1, (if_neg hb).trans h2⟩
theorem farStore_re (P : Program) (w : World) (τ : Tape) (a : Addr) (v : Value) (b : Bool) :
    (∃ e, w.farStore P a v b = .error e ∧ (re w τ).farStore P a v b = .error e) ∨
    ∃ h l, w.farStore P a v b = .ok ({ w with heap := h }, l) ∧ (re w τ).farStore P a v b = .ok (re { w with heap := h } τ, l) := by
  unfold World.farStore
  have hh : (re w τ).heap[a.block]? = w.heap[a.block]? := rfl
  have hno : (re w τ).noCell a "store: no such cell" = w.noCell a "store: no such cell" := rfl
  rw [hh, hno]
  cases ho : w.heap[a.block]? with
  | none => exact .inl ⟨_, rfl, rfl⟩
  | some o =>
    cases o with
    | view at_ u =>
      dsimp only
      rcases viewStore_re P w τ at_ u a v b with ⟨e, e1, e2⟩ | ⟨h, l, e1, e2⟩
      · exact .inl ⟨.unsupported (.unsafePointer e), by rw [e1], by rw [e2]⟩
      · exact .inr ⟨h, l, by rw [e1], by rw [e2]⟩
    | _ => exact .inl ⟨_, rfl, rfl⟩

def storeT {α : Type} (P : Program) (m : Mode) (a : Addr) (v : Value) (k : Sem α) (w : World) (es : Array Event) : Result α × Array Event :=
  match w.cell? a with
  | some _ =>
    if w.frozen? a then (.halt (.unsupported (.unsafePointer "a write to bytes that a string shares")) w, es)
    else k.runT P (w.setCell a v) (es.push ⟨.cell a, true, m == .atomic⟩)
  | none => match w.farStore P a v (m == .atomic) with
    | .ok (w, touched) => k.runT P w (es ++ touched.toArray.map (⟨.cell ·, true, m == .atomic⟩))
    | .error h => (.halt h w, es)
theorem keep {α : Type} (P : Program) (s : Sem α) : ∀ (w : World) (es : Array Event) (e : Event), e ∈ es → e ∈ (s.runT P w es).2 := by
  induction s with
  | pure a => intro w es e h; exact h
  | halt x => intro w es e h; exact h
  | load m a k ih =>
    intro w es e h
    unfold Sem.runT
    cases w.cell? a with
    | some v => exact ih v w _ e (Array.mem_push_of_mem _ h)
    | none =>
      dsimp only
      cases w.farLoad P a (m == .atomic) with
      | error x => exact h
      | ok r => exact ih r.1 w _ e (Array.mem_append_left _ h)
  | store m a v k ih =>
    intro w es e h
    have main : e ∈ (storeT P m a v k w es).2 := by
      unfold storeT
      cases w.cell? a with
      | some v0 =>
        dsimp only
        split
        · exact h
        · exact ih _ _ e (Array.mem_push_of_mem _ h)
      | none =>
        dsimp only
        cases w.farStore P a v (m == .atomic) with
        | error x => exact h
        | ok r => exact ih r.1 _ e (Array.mem_append_left _ h)
    cases v <;> first | exact main | exact h
  | new o k ih => intro w es e h; exact ih _ _ _ e h
  | shape r k ih => intro w es e h; exact ih _ _ _ e h
  | freeze a n k ih => intro w es e h; exact ih _ _ e h
  | frozen a k ih => intro w es e h; exact ih _ _ _ e h
  | getObj r k ih =>
    intro w es e h
    unfold Sem.runT
    cases w.heap[r]? with
    | none => exact h
    | some o => cases o <;> first | exact ih _ _ _ e (Array.mem_push_of_mem _ h) | exact h
  | setObj r o k ih =>
    intro w es e h
    unfold Sem.runT
    cases w.heap[r]? with
    | none => exact h
    | some o => cases o <;> first | exact ih _ _ e (Array.mem_push_of_mem _ h) | exact h
  | choose q k ih =>
    intro w es e h
    unfold Sem.runT
    split
    · exact ih _ _ _ e h
    · exact ih _ _ _ e h
  | sys c k ih => intro w es e h; exact ih _ _ _ e (Array.mem_push_of_mem _ h)
  | program k ih => intro w es e h; exact ih _ _ _ e h
  | mark m k ih => intro w es e h; exact ih _ _ e (Array.mem_push_of_mem _ h)

theorem store_local {α : Type} (P : Program) (m : Mode) (a : Addr) (v : Value) (k : Sem α) (ih : ∀ (w : World) (es : Array Event), (∀ e ∈ (k.runT P w es).2, e.loc ≠ .output) →
    w.drawn ≤ (rw0 (k.runT P w es).1).drawn ∧ (rw0 (k.runT P w es).1).tape = w.tape ∧
    ∀ τ, (∀ i q, i < (rw0 (k.runT P w es).1).drawn → τ i q = w.tape i q) → k.runT P (re w τ) es = (rre τ (k.runT P w es).1, (k.runT P w es).2)) (w : World) (es : Array Event) (hno : ∀ e ∈ (storeT P m a v k w es).2, e.loc ≠ .output) :
    w.drawn ≤ (rw0 (storeT P m a v k w es).1).drawn ∧ (rw0 (storeT P m a v k w es).1).tape = w.tape ∧
    ∀ τ, (∀ i q, i < (rw0 (storeT P m a v k w es).1).drawn → τ i q = w.tape i q) → storeT P m a v k (re w τ) es = (rre τ (storeT P m a v k w es).1, (storeT P m a v k w es).2) := by
  unfold storeT at hno ⊢
  have hc : ∀ τ, (re w τ).cell? a = w.cell? a := fun _ => rfl
  have hf : ∀ τ, (re w τ).frozen? a = w.frozen? a := fun _ => rfl
  simp only [hc, hf]
  cases hq : w.cell? a with
  | some v0 =>
    rw [hq] at hno
    dsimp only at hno ⊢
    cases hq2 : w.frozen? a with
    | true => exact ⟨Nat.le_refl _, rfl, fun τ _ => rfl⟩
    | false => rw [hq2] at hno; exact ih (w.setCell a v) _ hno
  | none =>
    rw [hq] at hno
    dsimp only at hno ⊢
    rcases farStore_re P w w.tape a v (m == .atomic) with ⟨e, e1, _⟩ | ⟨h, l, e1, _⟩
    · have e2 : ∀ τ, (re w τ).farStore P a v (m == .atomic) = .error e := fun τ => by
        rcases farStore_re P w τ a v (m == .atomic) with ⟨e', e3, e4⟩ | ⟨h, l, e3, e4⟩
        · rw [e1] at e3; cases e3; exact e4
        · rw [e1] at e3; cases e3
      simp only [e1, e2]
      exact ⟨Nat.le_refl _, rfl, fun τ _ => rfl⟩
    · have e2 : ∀ τ, (re w τ).farStore P a v (m == .atomic) = .ok (re { w with heap := h } τ, l) := fun τ => by
        rcases farStore_re P w τ a v (m == .atomic) with ⟨e', e3, e4⟩ | ⟨h', l', e3, e4⟩
        · rw [e1] at e3; cases e3
        · rw [e1] at e3; cases e3; exact e4
      rw [e1] at hno
      simp only [e1, e2]
      exact ih { w with heap := h } _ hno

theorem run_local {α : Type} (P : Program) : ∀ (s : Sem α) (w : World) (es : Array Event), (∀ e ∈ (s.runT P w es).2, e.loc ≠ .output) →
    w.drawn ≤ (rw0 (s.runT P w es).1).drawn ∧ (rw0 (s.runT P w es).1).tape = w.tape ∧
    ∀ τ, (∀ i q, i < (rw0 (s.runT P w es).1).drawn → τ i q = w.tape i q) → s.runT P (re w τ) es = (rre τ (s.runT P w es).1, (s.runT P w es).2) := by
  intro s
  induction s with
  | pure a => intro w es _; exact ⟨Nat.le_refl _, rfl, fun τ _ => rfl⟩
  | halt h => intro w es _; exact ⟨Nat.le_refl _, rfl, fun τ _ => rfl⟩
  | load m a k ih =>
    intro w es hno
    unfold Sem.runT at hno ⊢
    have hc' : ∀ τ, (re w τ).cell? a = w.cell? a := fun _ => rfl
    simp only [hc', farLoad_re]
    cases hc : w.cell? a with
    | some v => rw [hc] at hno; exact ih v w _ hno
    | none =>
      rw [hc] at hno
      dsimp only at hno ⊢
      cases hf : w.farLoad P a (m == .atomic) with
      | error h => exact ⟨Nat.le_refl _, rfl, fun τ _ => rfl⟩
      | ok r => rw [hf] at hno; exact ih r.1 w _ hno
  | store m a v k ih => cases v <;> first | (intro w es hno; exact ⟨Nat.le_refl _, rfl, fun τ _ => rfl⟩) | exact store_local P m a _ k ih
  | new o k ih => intro w es hno; exact ih _ { w with heap := w.heap.push o } es hno
  | shape r k ih => intro w es hno; exact ih _ w es hno
  | freeze a n k ih =>
    intro w es hno
    have h := ih (w.freeze a n) es hno
    have e : ∀ τ, (re w τ).freeze a n = re (w.freeze a n) τ := fun τ => by unfold World.freeze; split <;> rfl
    have e1 : (w.freeze a n).drawn = w.drawn := by unfold World.freeze; split <;> rfl
    have e2 : (w.freeze a n).tape = w.tape := by unfold World.freeze; split <;> rfl
    rw [e1, e2] at h
    unfold Sem.runT
    simp only [e]
    exact h
  | frozen a k ih => intro w es hno; exact ih _ w es hno
  | getObj r k ih =>
    intro w es hno
    unfold Sem.runT at hno ⊢
    have hc : ∀ τ, (re w τ).heap[r]? = w.heap[r]? := fun _ => rfl
    simp only [hc]
    cases ho : w.heap[r]? with
    | none => exact ⟨Nat.le_refl _, rfl, fun τ _ => rfl⟩
    | some o => rw [ho] at hno; cases o <;> first | exact ⟨Nat.le_refl _, rfl, fun τ _ => rfl⟩ | exact ih _ w _ hno
  | setObj r o k ih =>
    intro w es hno
    unfold Sem.runT at hno ⊢
    have hc : ∀ τ, (re w τ).heap[r]? = w.heap[r]? := fun _ => rfl
    simp only [hc]
    cases ho : w.heap[r]? with
    | none => exact ⟨Nat.le_refl _, rfl, fun τ _ => rfl⟩
    | some o' => rw [ho] at hno; cases o' <;> first | exact ⟨Nat.le_refl _, rfl, fun τ _ => rfl⟩ | exact ih { w with heap := w.heap.setIfInBounds r o } _ hno
  | choose q k ih =>
    intro w es hno
    unfold Sem.runT at hno ⊢
    by_cases hf : q.forced = true
    · simp only [hf, if_true] at hno ⊢
      exact ih 0 w es hno
    · simp only [hf, Bool.false_eq_true, if_false] at hno ⊢
      have h := ih (q.cut (w.tape w.drawn q)) { w with drawn := w.drawn + 1 } es hno
      refine ⟨Nat.le_of_lt h.1, h.2.1, fun τ hτ => ?_⟩
      have e := h.2.2 τ (fun i q hi => hτ i q hi)
      have e0 : (re w τ).tape (re w τ).drawn q = w.tape w.drawn q := hτ _ _ h.1
      rw [e0]
      exact e
  | sys c k ih =>
    intro w es hno
    unfold Sem.runT at hno
    exact absurd rfl (hno ⟨.output, true, false⟩ (keep P _ _ _ _ (by simp)))
  | program k ih => intro w es hno; exact ih P w es hno
  | mark m k ih => intro w es hno; exact ih w _ hno
end Go.Proofs.YtkpekiajdlolnaaGreat.Sim

/-
  THE SIMULATION, fourteenth text: a step reads the tape only where it draws.
-/
namespace Go.Proofs.YtkpekiajdlolnaaGreat.Sim
open Go Go.Conc

def LocS (f : World → GStep) (w : World) : Prop := ∀ g1 w1 es, f w = .go g1 w1 es → w.drawn ≤ w1.drawn ∧ w1.tape = w.tape ∧ ∀ τ, (∀ i q, i < w1.drawn → τ i q = w.tape i q) → f (re w τ) = .go g1 (re w1 τ) es
theorem LocS.go {g : Goroutine} {es : Array Event} {w : World} : LocS (fun w => .go g w es) w := by
  intro g1 w1 es h
  cases h
  exact ⟨Nat.le_refl _, rfl, fun τ _ => rfl⟩
theorem LocS.ended {f : World → GStep} {w : World} {o : Outcome} {w2 : World} {es : Array Event} (h : f w = .ended o w2 es) : LocS f w := fun g1 w1 es e => by rw [h] at e; cases e

section
variable {X : Cx} {Fb : FuncId → Bool} {wr : Bool} {sp : FuncId → Bool} {ρ : Rel}

theorem SS.loc {α β : Type} {s : Sem α} {s' : Sem β} {Q : Rel → α → β → Prop} (h : SS X ρ s s' Q) {w w' : World} (hw : WR X ρ w w') {r : Result α} {es : Array Event} (hr : s.runT X.P w #[] = (r, es)) :
    w.drawn ≤ (rw0 r).drawn ∧ (rw0 r).tape = w.tape ∧ ∀ τ, (∀ i q, i < (rw0 r).drawn → τ i q = w.tape i q) → s.runT X.P (re w τ) #[] = (rre τ r, es) := by
  have := run_local X.P s w #[] (fun e he => (h.3 w w' hw #[] e he).resolve_left (by simp))
  rw [hr] at this
  exact this

theorem apply_loc {cs : List Frame} {fr : Frame} {w w' : World} (hw : WR X ρ w w') (hm : fr.mode = .run) (hk : fr.kind = .normal)
    {s s' : Sem Next} (hs : SS X ρ s s' (fun ρ1 n n' => NR X ρ1 n n')) : LocS (fun w => stepG.apply X.P true fr cs none s w) w := by
  have e1 : (fr.kind == CallKind.early) = false := by rw [hk]; rfl
  have raised : ∀ vs, fr.raise vs = { fr with mode := .panicking vs } := fun vs => by unfold Frame.raise; rw [hm]
  intro g1 w1 es hgo
  rcases hr : s.runT X.P w #[] with ⟨r, es0⟩
  obtain ⟨d1, d2, d3⟩ := hs.loc hw hr
  unfold stepG.apply at hgo ⊢
  simp only [if_true] at hgo ⊢
  rw [hr] at hgo
  cases r with
  | halt h wx =>
    have hr' : s.run X.P w = .halt h wx := by rw [← Sem.runT_fst X.P s w #[], hr]
    obtain ⟨hmild, -⟩ := hs.2 w w' h wx hw hr'
    cases h with
    | panic v =>
      simp only [GStep.after] at hgo
      cases hgo
      refine ⟨d1, d2, fun τ hτ => ?_⟩
      rw [d3 τ hτ]
      rfl
    | unsupported u =>
      cases u with
      | initOrder b => exact hmild.elim
      | _ => simp only [GStep.after] at hgo; cases hgo
    | stuck m => simp only [GStep.after] at hgo; cases hgo
    | _ => exact hmild.elim
  | ok n wx =>
    have hr' : s.run X.P w = .ok n wx := by rw [← Sem.runT_fst X.P s w #[], hr]
    obtain ⟨ρ1, n', w1', es1, h1, h2, h3, h4, h5, h6, h7⟩ := hs.1 w w' n wx #[] hw hr'
    cases h6 <;>
    · simp only [GStep.after] at hgo
      cases hgo
      refine ⟨d1, d2, fun τ hτ => ?_⟩
      rw [d3 τ hτ]
      rfl

theorem leave_loc {cs : List Frame} {fr fr' : Frame} {w w' : World} (hw : WR X ρ w w') (hr0 : OptR ρ fr.roundOf fr'.roundOf) (hk : fr.kind = .normal) (jump : Option Code) (hj : ∀ c, jump = some c → X.C c) (m : Bool) (hne : fr.roundOf.isSome → cs ≠ []) :
    LocS (fun w => leaveG X.P m fr cs jump w) w := by
  rcases hr0 with ⟨e1, e2⟩ | ⟨l, l', e1, e2, hl⟩
  · unfold leaveG
    rw [e1]
    dsimp only
    cases jump with
    | none => exact LocS.go
    | some c => cases c <;> first | exact LocS.go | exact LocS.ended rfl
  · intro g1 w1 es hgo
    unfold leaveG at hgo ⊢
    rw [e1] at hgo ⊢
    dsimp only at hgo ⊢
    rcases hr : (Instr.endRound l jump).runT X.P w #[] with ⟨r, es0⟩
    obtain ⟨d1, d2, d3⟩ := (SS.endRound hl jump hj).loc hw hr
    rw [hr] at hgo
    cases r with
    | halt h wx => cases hgo
    | ok v wx =>
      cases cs with
      | nil => exact absurd rfl (hne (by rw [e1]; rfl))
      | cons c cs =>
        unfold doReturn at hgo
        simp only [hk, GStep.after] at hgo
        cases hgo
        refine ⟨d1, d2, fun τ hτ => ?_⟩
        rw [d3 τ hτ]
        simp only [rre, doReturn, hk, GStep.after]

theorem after_inv {es0 : Array Event} {s : GStep} {g1 : Goroutine} {w1 : World} {es : Array Event} (h : GStep.after es0 s = .go g1 w1 es) : ∃ es2, s = .go g1 w1 es2 ∧ GStep.go g1 w1 es = GStep.after es0 (.go g1 w1 es2) := by
  cases s <;> first | (cases h; exact ⟨_, rfl, rfl⟩) | cases h

theorem exec_loc (S : X.Set Fb wr sp) {cs : List Frame} {fr fr' : Frame} {w w' : World} (hf : FR X Fb wr ρ fr fr') (hw : WR X ρ w w') (hm : fr.mode = .run) (m : Bool) (hne : fr.roundOf.isSome → cs ≠ []) :
    LocS (fun w => stepG.exec X.P m true fr cs none w) w := by
  obtain ⟨fn, tmps, todo, defers, mode, kind, ro⟩ := fr
  obtain ⟨fn', tmps', todo', defers', mode', kind', ro'⟩ := fr'
  have ht : IsR X Fb wr ρ todo todo' := hf.todo
  obtain rfl : fn' = fn := hf.fn
  have hk : kind = .normal := hf.kind
  have hco : ∀ c, codeOk X.P X.P' Fb wr c = true → X.C c := fun c h => (S.c c).2 h
  unfold stepG.exec
  cases ht with
  | nil => exact leave_loc hw hf.round hk none (fun c e => by cases e) m hne
  | @cons i i' l l' a b =>
    cases a with
    | inBlock id => exact LocS.go
    | inLoop c => exact LocS.go
    | inRangeFunc r => exact LocS.ended rfl
    | beginRound =>
      refine apply_loc (fr := ⟨fn', tmps, _, defers, mode, kind, ro⟩) (s' := do (ro'.elim (Go.stuck "beginRound: no round") Instr.beginRound : Sem Unit); Pure.pure .skip) hw hm hk ?_
      have hr0 : OptR ρ ro ro' := hf.round
      rcases hr0 with ⟨rfl, rfl⟩ | ⟨l, l', rfl, rfl, hl⟩
      · exact SS.dies (Dies.bindL (Dies.stuck _))
      · exact (SS.beginRound hl).bind fun _ _ _ _ _ => SS.pure .skip
    | @endRangeFunc l l' r =>
      intro g1 w1 es hgo
      dsimp only at hgo ⊢
      rcases hr : (Instr.endLoop l).runT X.P w #[] with ⟨r0, es0⟩
      obtain ⟨d1, d2, d3⟩ := (SS.endLoop r).loc hw hr
      rw [hr] at hgo
      cases r0 with
      | halt h wx =>
        cases h with
        | panic v =>
          cases hgo
          refine ⟨d1, d2, fun τ hτ => ?_⟩
          rw [d3 τ hτ]
          rfl
        | _ => cases hgo
      | ok j wx =>
        cases hgo
        refine ⟨d1, d2, fun τ hτ => ?_⟩
        rw [d3 τ hτ]
        rfl
    | @inRegion ops td c =>
      cases td with
      | nil => exact LocS.go
      | cons i td =>
        dsimp only
        by_cases hwant : ((ops[i]?).map (Region.wanted · (yielded ops tmps))).getD false = true
        · simp only [if_pos hwant]
          cases ho : ops[i]? with
          | none => rw [ho] at hwant; cases hwant
          | some o =>
            have hok := all_ops c ho
            have nd : ∀ c, o.op ≠ .defer c := fun c e => by
              unfold okOp at hok
              rw [e] at hok
              simp at hok
            have op1 : (⟨fn', tmps, .inRegion ops (i :: td) :: l, defers, mode, kind, ro⟩ : Frame).oper? = some o := ho
            have e : (fun w => stepG.oper X.P true (⟨fn', tmps, .inRegion ops (i :: td) :: l, defers, mode, kind, ro⟩ : Frame) cs none w) =
                fun w => stepG.apply X.P true (⟨fn', tmps, .inRegion ops (i :: td) :: l, defers, mode, kind, ro⟩ : Frame) cs none (execOp (Frame.eval (⟨fn', tmps, .inRegion ops (i :: td) :: l, defers, mode, kind, ro⟩ : Frame)) o) w := by
              funext w
              unfold stepG.oper
              rw [op1]
              dsimp only
              split
              · rename_i e; exact absurd e (nd _)
              · rfl
            rw [e]
            exact apply_loc hw hm hk (SS.execOp S.ok wr S.wrs o hok _ _ (hf.eval S))
        · simp only [if_neg hwant]
          exact LocS.go
    | @code c hc =>
      cases c with
      | skip => exact LocS.go
      | ret => exact leave_loc (fr := ⟨fn', tmps, _, defers, mode, kind, ro⟩) hw hf.round hk (some .ret) (fun c e => by cases e; exact hco _ rfl) m hne
      | seq x y => exact LocS.go
      | cond x y z =>
        dsimp only
        generalize Frame.eval _ x = v
        cases v <;> first | exact LocS.go | exact LocS.ended rfl
      | block id c => exact LocS.go
      | loop c => exact LocS.go
      | exit id =>
        dsimp only
        cases exitTo id l with
        | none => exact leave_loc (fr := ⟨fn', tmps, _, defers, mode, kind, ro⟩) hw hf.round hk (some (.exit id)) (fun c e => by cases e; exact hco _ rfl) m hne
        | some k => exact LocS.go
      | region id ops draw =>
        cases draw with
        | false => exact LocS.go
        | true =>
          intro g1 w1 es hgo
          dsimp only at hgo ⊢
          simp only [Bool.not_true, Bool.false_eq_true, if_false] at hgo ⊢
          have := (SS.choose (X := X) (ρ := ρ) (.order fn' id))
          rcases hr : (choose (.order fn' id)).runT X.P w #[] with ⟨r0, es0⟩
          obtain ⟨d1, d2, d3⟩ := this.loc hw hr
          have hr' : (choose (.order fn' id)).run X.P w = r0 := by rw [← Sem.runT_fst X.P _ w #[], hr]
          rw [hr'] at hgo
          cases r0 with
          | halt h wx => cases hgo
          | ok t wx =>
            cases hgo
            refine ⟨d1, d2, fun τ hτ => ?_⟩
            have : (choose (.order fn' id)).run X.P (re w τ) = .ok t (re w1 τ) := by rw [← Sem.runT_fst X.P _ _ #[], d3 τ hτ]; rfl
            rw [this]
      | rangeFunc f params assign body =>
        simp only [codeOk, Bool.and_eq_true] at hc
        obtain ⟨hc1, hc2, hc3⟩ := hc
        have hG : X.G fn' := hf.same
        intro g1 w1 es hgo
        dsimp only at hgo ⊢
        rcases hr : (Instr.enterLoop fn' tmps params assign body ro).runT X.P w #[] with ⟨r0, es0⟩
        have hen := SS.enterLoop hG hf.tmps params (hco _ hc2) (hco _ hc3) hf.round
        obtain ⟨d1, d2, d3⟩ := hen.loc hw hr
        rw [hr] at hgo
        cases r0 with
        | halt h wx => cases hgo
        | ok p wx =>
          obtain ⟨l1, mark⟩ := p
          obtain ⟨ρ1, p', w1', es1, h1, h2, h3, h4, h5, ⟨h6, h6'⟩, h7⟩ := res_ok hen hw hr
          obtain ⟨l1', mark'⟩ := p'
          dsimp only at h6 h6' hgo
          have hf1 := hf.mono h3.le
          have hf2 : FR X Fb wr ρ1 ⟨fn', tmps, .inRangeFunc l1 :: l, mark ++ defers, mode, kind, ro⟩ ⟨fn', tmps', .inRangeFunc l1' :: l', mark' ++ defers', mode', kind', ro'⟩ :=
            ⟨hf1.fn, hf1.same, hf1.tmps, .cons (.inRangeFunc h6) (b.mono h3.le), h6'.append hf1.defers, hf1.mode, hf1.run, hf1.kind, hf1.kind', hf1.round⟩
          have ap := apply_loc (cs := cs) (fr := ⟨fn', tmps, .inRangeFunc l1 :: l, mark ++ defers, mode, kind, ro⟩) h2 hm hk (SS.iterate S.ok (fun _ => rfl) (fun _ => rfl) ((hf2.eval S).1 f hc1) h6)
          obtain ⟨es2, k1, k2⟩ := after_inv hgo
          obtain ⟨q1, q2, q3⟩ := ap g1 w1 es2 k1
          refine ⟨Nat.le_trans d1 q1, q2.trans d2, fun τ hτ => ?_⟩
          have d3 := d3 τ (fun i q hi => hτ i q (Nat.lt_of_lt_of_le hi q1))
          have q3 := q3 τ (fun i q hi => (hτ i q hi).trans (by rw [show wx.tape = w.tape from d2]))
          rw [d3]
          dsimp only [rre]
          have k3 : es = seen X.P fn' es0 ++ es2 := by cases k2; rfl
          rw [k3]
          exact congrArg (GStep.after _) q3
      | _ => simp [codeOk] at hc

theorem unwind_loc (S : X.Set Fb wr sp) {cs : List Frame} {fr fr' : Frame} {w w' : World} (hf : FR X Fb wr ρ fr fr') (hw : WR X ρ w w') (hm : fr.mode = .returning) (m : Bool) (hne : fr.defers ≠ [] ∨ cs ≠ []) :
    LocS (fun w => unwind X.P m fr cs none w) w := by
  obtain ⟨fn, tmps, todo, defers, mode, kind, ro⟩ := fr
  obtain ⟨fn', tmps', todo', defers', mode', kind', ro'⟩ := fr'
  obtain rfl : fn' = fn := hf.fn
  obtain rfl : mode = .returning := hm
  obtain rfl : kind = .normal := hf.kind
  have hd : DsR ρ defers defers' := hf.defers
  intro g1 w1 es hgo
  cases hd with
  | @cons r r' l l' a b =>
    unfold unwind at hgo ⊢
    dsimp only at hgo ⊢
    rcases hr : (Instr.takeDeferred r).runT X.P w #[] with ⟨r0, es0⟩
    obtain ⟨d1, d2, d3⟩ := (SS.takeDeferred a).loc hw hr
    rw [hr] at hgo
    cases r0 with
    | halt h wx => cases hgo
    | ok v wx =>
      cases hgo
      refine ⟨d1, d2, fun τ hτ => ?_⟩
      rw [d3 τ hτ]
      rfl
  | nil =>
    have hne : cs ≠ [] := hne.resolve_left (fun h => h rfl)
    obtain ⟨f, q1, q2⟩ := hf.same
    have q1 : X.P.funcs[fn']? = some f := q1
    unfold unwind at hgo ⊢
    dsimp only at hgo ⊢
    rw [q1] at hgo ⊢
    dsimp only at hgo ⊢
    rcases hr : (results f tmps).runT X.P w #[] with ⟨r0, es0⟩
    obtain ⟨d1, d2, d3⟩ := (SS.results S.ok hf.tmps).loc hw hr
    rw [hr] at hgo
    cases r0 with
    | halt h wx => cases h <;> cases hgo
    | ok v wx =>
      cases cs with
      | nil => exact absurd rfl hne
      | cons c cs =>
        cases hgo
        refine ⟨d1, d2, fun τ hτ => ?_⟩
        rw [d3 τ hτ]
        rfl

theorem step_loc (S : X.Set Fb wr sp) {cs : List Frame} {fr fr' : Frame} {w w' : World} (hf : FR X Fb wr ρ fr fr') (hw : WR X ρ w w') (m : Bool) (hne : cs ≠ []) :
    LocS (fun w => stepG X.P m (G fr cs) w) w := by
  rcases hf.run with hm | hm
  · have e : (fun w => stepG X.P m (G fr cs) w) = fun w => stepG.exec X.P m true fr cs none w := funext fun w => stepG_run _ _ _ _ _ hm
    rw [e]
    exact exec_loc S hf hw hm m (fun _ => hne)
  · have e : (fun w => stepG X.P m (G fr cs) w) = fun w => unwind X.P m fr cs none w := funext fun w => stepG_ret _ _ _ _ _ hm
    rw [e]
    exact unwind_loc S hf hw hm m (.inr hne)
end

end Go.Proofs.YtkpekiajdlolnaaGreat.Sim

/-
  THE SIMULATION, fifteenth text: FROM "UNDER EVERY TAPE THE LONE RUN COMES THERE" TO "IT MUST COME THERE" (bar induction: the tape that would never come there is laid together draw by draw).
-/
namespace Go.Proofs.YtkpekiajdlolnaaGreat.Sim
open Go Go.Conc

inductive LRun (P : Program) (Q : Frame → List Frame → World → Prop) : Frame → List Frame → World → Prop
  | done {fr : Frame} {cs : List Frame} {w : World} : Q fr cs w → LRun P Q fr cs w
  | step {fr : Frame} {cs : List Frame} {w : World} {fr1 : Frame} {cs1 : List Frame} {w1 : World} {es : Array Event} : stepG P true (G fr cs) w = .go (G fr1 cs1) w1 es → LRun P Q fr1 cs1 w1 → LRun P Q fr cs w

def Panicky (fr : Frame) (cs : List Frame) (w : World) : Prop := (∃ ch, fr.mode = .panicking ch) ∧ ((∃ up, cs = up ++ [c0] ∧ Marked w fr ∧ ∀ f ∈ up, Marked w f) ∨ (∃ d ds, fr.defers = d :: ds ∧ d.target = .nil))

theorem panic_step {P : Program} {fr : Frame} {cs : List Frame} {w : World} (hn : NB w) (h : Panicky fr cs w) :
    (∃ o w1 es, stepG P true (G fr cs) w = .ended o w1 es) ∨ ∃ fr1 cs1 w1 es, stepG P true (G fr cs) w = .go (G fr1 cs1) w1 es ∧ NB w1 ∧ Panicky fr1 cs1 w1 := by
  obtain ⟨⟨ch, hm⟩, hshape⟩ := h
  rw [stepG_panic _ _ _ _ _ hm]
  unfold unwind
  rcases hshape with ⟨up, rfl, hk, hup⟩ | ⟨d, ds, hd, ht⟩
  · cases hd : fr.defers with
    | cons d ds =>
      obtain ⟨r, hr, hcl⟩ := hk d (by rw [hd]; simp)
      obtain ⟨t, as⟩ := d
      obtain rfl : t = .collected r := hr
      dsimp only
      cases hrun : (Instr.takeDeferred r).runT P w #[] with
      | mk r0 es0 =>
        cases r0 with
        | halt h wx => exact .inl ⟨_, _, _, rfl⟩
        | ok v wx =>
          obtain ⟨rfl, hn'⟩ := take_marked hcl hrun
          exact .inr ⟨_, _, _, _, rfl, trivial, ⟨ch, hm⟩, .inl ⟨up, rfl, fun d' hd' => let ⟨r', x, y⟩ := hk d' (by rw [hd]; exact List.mem_cons_of_mem _ (by simpa using hd')); ⟨r', x, hn' r' y⟩, fun f hf => (hup f hf).keep hn'⟩⟩
    | nil =>
      rw [hm]
      dsimp only
      split
      · exact .inl ⟨_, _, _, rfl⟩
      · cases up with
        | nil => exact .inr ⟨_, _, _, _, rfl, hn, raise_mode _ _, .inr ⟨_, [], raise_defers _ _, rfl⟩⟩
        | cons f up =>
          refine .inr ⟨_, _, _, _, rfl, hn, raise_mode _ _, .inl ⟨up, rfl, ?_, fun g hg => hup g (by simp [hg])⟩⟩
          intro d' hd'
          rw [raise_defers] at hd'
          exact hup f (by simp) d' hd'
  · obtain ⟨t, as⟩ := d
    obtain rfl : t = .nil := ht
    rw [hd]
    dsimp only
    unfold callDeferred
    rw [hm]
    exact .inl ⟨_, _, _, rfl⟩

theorem run_no_panic {P : Program} {Q : Frame → List Frame → World → Prop} (hQ : ∀ fr cs w, Q fr cs w → ∀ ch, fr.mode ≠ .panicking ch) {fr : Frame} {cs : List Frame} {w : World} (h : LRun P Q fr cs w) : NB w → Panicky fr cs w → False := by
  induction h with
  | done hq => intro _ ⟨⟨ch, e⟩, _⟩; exact hQ _ _ _ hq ch e
  | step hs _ ih =>
    intro hn hp
    rcases panic_step hn hp with ⟨o, w1, es, e⟩ | ⟨fr1, cs1, w1, es, e, hn1, hp1⟩
    · rw [hs] at e; cases e
    · rw [hs] at e; cases e; exact ih hn1 hp1
theorem LMust.run {P : Program} {Q : Frame → List Frame → World → Prop} {fr : Frame} {cs : List Frame} {w : World} (h : LMust P Q fr cs w) : LRun P Q fr cs w := by
  induction h with
  | done hq => exact .done hq
  | step nf nc nw ne hs _ ih => exact .step (hs _ (fun _ _ _ => rfl)) (ih _ (fun _ _ _ => rfl))

section
variable {X : Cx} {Fb : FuncId → Bool} {wr : Bool}

/-- a state of the class. -/
def Inv (X : Cx) (Fb : FuncId → Bool) (wr : Bool) (fr : Frame) (cs : List Frame) (w : World) : Prop :=
  ∃ ρ fr' up up' w', cs = up ++ [c0] ∧ FR X Fb wr ρ fr fr' ∧ FsR X Fb wr ρ up up' ∧ WR X ρ w w' ∧ NB w ∧ Bot (fr :: up)

theorem WR.re {ρ : Rel} {w w' : World} (h : WR X ρ w w') (τ : Tape) : WR X ρ (re w τ) { w' with tape := τ, drawn := w.drawn } :=
  ⟨h.fn, h.inj, h.heap, fun _ _ => rfl, h.sh⟩
theorem Inv.re {fr : Frame} {cs : List Frame} {w : World} (h : Inv X Fb wr fr cs w) (τ : Tape) : Inv X Fb wr fr cs (re w τ) := by
  obtain ⟨ρ, fr', up, up', w', h1, h2, h3, h4, h5, h6⟩ := h
  exact ⟨ρ, fr', up, up', _, h1, h2, h3, h4.re τ, h5, h6⟩
theorem Inv.loc (S : X.Set Fb wr (fun _ => false)) {fr : Frame} {cs : List Frame} {w : World} (h : Inv X Fb wr fr cs w) : LocS (fun w => stepG X.P true (G fr cs) w) w := by
  obtain ⟨ρ, fr', up, up', w', rfl, h2, h3, h4, h5, h6⟩ := h
  exact step_loc S h2 h4 true (by simp)
theorem Inv.step (S : X.Set Fb wr (fun _ => false)) {fr : Frame} {cs : List Frame} {w : World} (h : Inv X Fb wr fr cs w) (hgo : fr.mode = .run ∨ fr.defers ≠ [] ∨ cs ≠ [c0]) :
    (∃ o w1 es, stepG X.P true (G fr cs) w = .ended o w1 es) ∨ ∃ fr1 cs1 w1 es, stepG X.P true (G fr cs) w = .go (G fr1 cs1) w1 es ∧ (Inv X Fb wr fr1 cs1 w1 ∨ (NB w1 ∧ Panicky fr1 cs1 w1)) := by
  obtain ⟨ρ, fr', up, up', w', rfl, h2, h3, h4, h5, h6⟩ := h
  have out := sim_step S (base := [c0]) (base' := [c0]) h2 h3 h4 h5 h6 (hgo.imp id (Or.imp id fun h e => h (by rw [e]; rfl))) true true
  generalize hs : stepG X.P true (G fr (up ++ [c0])) w = s at out ⊢
  cases out with
  | nice e h1 h2 h3 h4 h5 h6 h7 h8 => exact .inr ⟨_, _, _, _, rfl, .inl ⟨_, _, _, _, _, rfl, h1, h2, h3, h7, h8⟩⟩
  | special k1 k2 => cases k2
  | panic h1 h2 => exact .inr ⟨_, _, _, _, rfl, .inr ⟨trivial, ⟨_, rfl⟩, .inl ⟨_, rfl, h1, h2⟩⟩⟩
  | ended => exact .inl ⟨_, _, _, rfl⟩

abbrev St := Frame × List Frame × World
def Agree (w : World) (τ : Tape) : Prop := ∀ i q, i < w.drawn → τ i q = w.tape i q

theorem end_shape (S : X.Set Fb wr (fun _ => false)) {fr : Frame} {cs : List Frame} {w : World} (h : Inv X Fb wr fr cs w) (hgo : ¬ (fr.mode = .run ∨ fr.defers ≠ [] ∨ cs ≠ [c0])) :
    (∃ o w1 es, stepG X.P true (G fr cs) w = .ended o w1 es) ∨ ∃ fr1 cs1 w1 es, stepG X.P true (G fr cs) w = .go (G fr1 cs1) w1 es ∧ NB w1 ∧ Panicky fr1 cs1 w1 := by
  obtain ⟨ρ, fr', up, up', w', e0, hf, h3, hw, hn, h6⟩ := h
  obtain ⟨fn, tmps, todo, defers, mode, kind, ro⟩ := fr
  obtain rfl : kind = .normal := hf.kind
  have hcs : cs = [c0] := Classical.byContradiction fun h => hgo (.inr (.inr h))
  have hd : defers = [] := Classical.byContradiction fun h => hgo (.inr (.inl h))
  have hm : mode = .returning := hf.run.resolve_left fun h => hgo (.inl h)
  subst hcs; subst hd; subst hm
  rw [stepG_ret _ _ _ _ _ rfl]
  obtain ⟨f, q1, q2⟩ := hf.same
  have q1 : X.P.funcs[fn]? = some f := q1
  unfold unwind
  dsimp only
  rw [q1]
  dsimp only
  rcases hr : (results f tmps).runT X.P w #[] with ⟨r0, es0⟩
  cases r0 with
  | halt h wx => cases h <;> exact .inl ⟨_, _, _, rfl⟩
  | ok v wx =>
    obtain ⟨ρ1, v', w1', es1, h1, h2, h3, h4, h5, h6, h7⟩ := res_ok (SS.results S.ok hf.tmps) hw hr
    exact .inr ⟨_, _, _, _, rfl, trivial, ⟨[], rfl⟩, .inr ⟨_, [], rfl, rfl⟩⟩
theorem end_step (S : X.Set Fb wr (fun _ => false)) {fr : Frame} {cs : List Frame} {w : World} (h : Inv X Fb wr fr cs w) (hgo : ¬ (fr.mode = .run ∨ fr.defers ≠ [] ∨ cs ≠ [c0])) {fr1 : Frame} {cs1 : List Frame} {w1 : World} {es : Array Event}
    (hs : stepG X.P true (G fr cs) w = .go (G fr1 cs1) w1 es) : NB w1 ∧ Panicky fr1 cs1 w1 := by
  rcases end_shape S h hgo with ⟨o, w2, es2, e⟩ | ⟨fr2, cs2, w2, es2, e, h1, h2⟩
  · rw [hs] at e; cases e
  · rw [hs] at e; cases e; exact ⟨h1, h2⟩

theorem bar (S : X.Set Fb wr (fun _ => false)) {Q : Frame → List Frame → World → Prop} (hQ : ∀ fr cs w, Q fr cs w → ∀ ch, fr.mode ≠ .panicking ch)
    (hQre : ∀ fr cs w τ, Inv X Fb wr fr cs w → Agree w τ → Q fr cs (re w τ) → Q fr cs w)
    {fr : Frame} {cs : List Frame} {w : World} (hinv : Inv X Fb wr fr cs w) (hall : ∀ τ, Agree w τ → LRun X.P Q fr cs (re w τ)) : LMust X.P Q fr cs w := by
  classical
  -- a bad state
  let Bad (s : St) : Prop := Inv X Fb wr s.1 s.2.1 s.2.2 ∧ (∀ τ, Agree s.2.2 τ → LRun X.P Q s.1 s.2.1 (re s.2.2 τ)) ∧ ¬ LMust X.P Q s.1 s.2.1 s.2.2
  -- and the next
  have next : ∀ s : St, Bad s → ∃ s1 : St, Bad s1 ∧ s.2.2.drawn ≤ s1.2.2.drawn ∧ Agree s.2.2 s1.2.2.tape ∧ ∃ es, ∀ T, Agree s1.2.2 T → stepG X.P true (G s.1 s.2.1) (re s.2.2 T) = .go (G s1.1 s1.2.1) (re s1.2.2 T) es := by
    rintro ⟨fr, cs, w⟩ ⟨hi, hr, hb⟩
    dsimp only at hi hr hb ⊢
    have nq : ∀ τ, Agree w τ → ¬ Q fr cs (re w τ) := fun τ ha h => hb (.done (hQre _ _ _ τ hi ha h))
    have hgo : fr.mode = .run ∨ fr.defers ≠ [] ∨ cs ≠ [c0] := by
      by_cases h : fr.mode = .run ∨ fr.defers ≠ [] ∨ cs ≠ [c0]
      · exact h
      · have hi0 := hi
        cases hr w.tape fun _ _ _ => rfl with
        | done hq => exact absurd hq (nq _ (fun _ _ _ => rfl))
        | step hs h2 =>
          have hs : stepG X.P true (G fr cs) w = _ := hs
          obtain ⟨e, hp⟩ := end_step S hi h hs
          exact (run_no_panic hQ h2 e hp).elim
    have : ∃ τ, Agree w τ ∧ ∀ fr1 cs1 w1 es, stepG X.P true (G fr cs) (re w τ) = .go (G fr1 cs1) w1 es → ¬ LMust X.P Q fr1 cs1 w1 := by
      refine Classical.byContradiction fun hc => hb ?_
      have hc' : ∀ τ, Agree w τ → ∃ fr1 cs1 w1 es, stepG X.P true (G fr cs) (re w τ) = .go (G fr1 cs1) w1 es ∧ LMust X.P Q fr1 cs1 w1 := fun τ ha =>
        Classical.byContradiction fun hn => hc ⟨τ, ha, fun fr1 cs1 w1 es h1 h2 => hn ⟨fr1, cs1, w1, es, h1, h2⟩⟩
      refine .step (fun τ => if h : Agree w τ then (hc' τ h).choose else default) (fun τ => if h : Agree w τ then (hc' τ h).choose_spec.choose else default) (fun τ => if h : Agree w τ then (hc' τ h).choose_spec.choose_spec.choose else default)
        (fun τ => if h : Agree w τ then (hc' τ h).choose_spec.choose_spec.choose_spec.choose else default) (fun τ h => ?_) (fun τ h => ?_)
      · have h : Agree w τ := h
        rw [dif_pos h, dif_pos h, dif_pos h, dif_pos h]
        exact (hc' τ h).choose_spec.choose_spec.choose_spec.choose_spec.1
      · have h : Agree w τ := h
        rw [dif_pos h, dif_pos h, dif_pos h]
        exact (hc' τ h).choose_spec.choose_spec.choose_spec.choose_spec.2
    obtain ⟨τ, ha, hno⟩ := this
    have hloc := (hi.re τ).loc S
    rcases (hi.re τ).step S hgo with ⟨o, w1, es, e⟩ | ⟨fr1, cs1, w1, es, e, hi1⟩
    · exfalso
      cases hr τ ha with
      | done hq => exact nq τ ha hq
      | step hs _ => rw [e] at hs; cases hs
    · obtain ⟨d1, d2, d3⟩ := hloc _ _ _ e
      have key : ∀ T, Agree w1 T → stepG X.P true (G fr cs) (re w T) = .go (G fr1 cs1) (re w1 T) es := fun T hT => d3 T fun i q hi => by rw [hT i q hi, d2]
      have hr1 : ∀ T, Agree w1 T → LRun X.P Q fr1 cs1 (re w1 T) := fun T hT => by
        have hT' : Agree w T := fun i q hi => by
          rw [hT i q (Nat.lt_of_lt_of_le hi d1), d2]
          exact ha i q hi
        cases hr T hT' with
        | done hq => exact absurd hq (nq T hT')
        | step hs h2 => rw [key T hT] at hs; cases hs; exact h2
      have hrw : LRun X.P Q fr1 cs1 w1 := hr1 w1.tape fun _ _ _ => rfl
      refine ⟨⟨fr1, cs1, w1⟩, ⟨?_, hr1, hno _ _ _ _ e⟩, d1, fun i q hi => by show w1.tape i q = _; rw [d2]; exact ha i q hi, es, key⟩
      exact hi1.resolve_right fun ⟨h1, h2⟩ => run_no_panic hQ hrw h1 h2
  refine Classical.byContradiction fun hb => ?_
  have b0 : Bad (fr, cs, w) := ⟨hinv, hall, hb⟩
  let nx : { s : St // Bad s } → { s : St // Bad s } := fun s => ⟨(next s.1 s.2).choose, (next s.1 s.2).choose_spec.1⟩
  have hnx : ∀ s : { s : St // Bad s }, s.1.2.2.drawn ≤ (nx s).1.2.2.drawn ∧ Agree s.1.2.2 (nx s).1.2.2.tape ∧
      ∃ es, ∀ T, Agree (nx s).1.2.2 T → stepG X.P true (G s.1.1 s.1.2.1) (re s.1.2.2 T) = .go (G (nx s).1.1 (nx s).1.2.1) (re (nx s).1.2.2 T) es := fun s => (next s.1 s.2).choose_spec.2
  let c : Nat → { s : St // Bad s } := fun n => Nat.rec ⟨(fr, cs, w), b0⟩ (fun _ s => nx s) n
  have hnext : ∀ n, (c n).1.2.2.drawn ≤ (c (n + 1)).1.2.2.drawn ∧ Agree (c n).1.2.2 (c (n + 1)).1.2.2.tape ∧
      ∃ es, ∀ T, Agree (c (n + 1)).1.2.2 T → stepG X.P true (G (c n).1.1 (c n).1.2.1) (re (c n).1.2.2 T) = .go (G (c (n + 1)).1.1 (c (n + 1)).1.2.1) (re (c (n + 1)).1.2.2 T) es := fun n => hnx (c n)
  clear_value c
  have mono : ∀ j d, (c j).1.2.2.drawn ≤ (c (j + d)).1.2.2.drawn ∧ Agree (c j).1.2.2 (c (j + d)).1.2.2.tape := by
    intro j d
    induction d with
    | zero => exact ⟨Nat.le_refl _, fun _ _ _ => rfl⟩
    | succ d ih =>
      obtain ⟨h1, h2, -⟩ := hnext (j + d)
      exact ⟨Nat.le_trans ih.1 h1, fun i q hi => (h2 i q (Nat.lt_of_lt_of_le hi ih.1)).trans (ih.2 i q hi)⟩
  let T : Tape := fun i q => if h : ∃ k, i < (c k).1.2.2.drawn then (c h.choose).1.2.2.tape i q else 0
  have hT : ∀ k, Agree (c k).1.2.2 T := by
    intro k i q hi
    have h : ∃ k, i < (c k).1.2.2.drawn := ⟨k, hi⟩
    have e : T i q = (c h.choose).1.2.2.tape i q := dif_pos h
    rw [e]
    have hk := h.choose_spec
    generalize h.choose = k' at hk
    rcases Nat.le_total k k' with hle | hle
    · obtain ⟨d, rfl⟩ := Nat.exists_eq_add_of_le hle
      exact (mono k d).2 i q hi
    · obtain ⟨d, rfl⟩ := Nat.exists_eq_add_of_le hle
      exact ((mono k' d).2 i q hk).symm
  have never : ∀ fr cs w, LRun X.P Q fr cs w → ∀ k, fr = (c k).1.1 → cs = (c k).1.2.1 → w = re (c k).1.2.2 T → False := by
    intro fr cs w h
    induction h with
    | done hq =>
      rintro k rfl rfl rfl
      exact (c k).2.2.2 (.done (hQre _ _ _ T (c k).2.1 (hT k) hq))
    | step hs _ ih =>
      rintro k rfl rfl rfl
      obtain ⟨-, -, es, h⟩ := hnext k
      rw [h T (hT _)] at hs
      cases hs
      exact ih (k + 1) rfl rfl rfl
  exact never _ _ _ ((c 0).2.2.1 T (hT 0)) 0 rfl rfl rfl

end

end Go.Proofs.YtkpekiajdlolnaaGreat.Sim

/-
  THE SIMULATION, sixteenth text: FROM A LONE CONTRACT TO "IT MUST COME THERE".
-/
namespace Go.Proofs.YtkpekiajdlolnaaGreat.Sim
open Go Go.Conc

section
variable {X : Cx} {Fb : FuncId → Bool} {wr : Bool}

theorem lone_inj {fr fr' : Frame} {cs cs' : List Frame} {w w' : World} (h : lone fr cs w = lone fr' cs' w') : fr = fr' ∧ cs = cs' ∧ w = w' := by
  unfold lone at h
  injection h with h1 h2
  simp at h2
  exact ⟨h2.1, h2.2, h1⟩

theorem bare_go {s : GStep} {g : Goroutine} {w : World} {es : Array Event} (h : s = .go g w es) : s.bare = .go g w := by rw [h]; rfl
theorem bare_ended {s : GStep} {o : Outcome} {w : World} {es : Array Event} (h : s = .ended o w es) : s.bare = .ended o w := by rw [h]; rfl

/-- what the machine's run of one goroutine tells of the goroutine's own. -/
theorem conv (S : X.Set Fb wr (fun _ => false)) {Q : Frame → List Frame → World → Prop} {fr' : Frame} {cs' : List Frame} {w' : World} (hq : Q fr' cs' w') : ∀ (n : Nat) {fr : Frame} {cs : List Frame} {w : World},
    (Inv X Fb wr fr cs w ∨ (NB w ∧ Panicky fr cs w)) → runN X.P n (lone fr cs w) = .next (lone fr' cs' w') → LRun X.P Q fr cs w := by
  intro n
  induction n with
  | zero =>
    intro fr cs w _ h
    have h : Stepped.next (lone fr cs w) = .next (lone fr' cs' w') := h
    injection h with h
    obtain ⟨rfl, rfl, rfl⟩ := lone_inj h
    exact .done hq
  | succ n ih =>
    intro fr cs w hi h
    have key : (∃ o w1 es, stepG X.P true (G fr cs) w = .ended o w1 es) ∨ ∃ fr1 cs1 w1 es, stepG X.P true (G fr cs) w = .go (G fr1 cs1) w1 es ∧ (Inv X Fb wr fr1 cs1 w1 ∨ (NB w1 ∧ Panicky fr1 cs1 w1)) := by
      rcases hi with hi | ⟨hn, hp⟩
      · by_cases hgo : fr.mode = .run ∨ fr.defers ≠ [] ∨ cs ≠ [c0]
        · exact hi.step S hgo
        · exact (end_shape S hi hgo).imp id fun ⟨fr1, cs1, w1, es, a, b⟩ => ⟨fr1, cs1, w1, es, a, .inr b⟩
      · rcases panic_step hn hp with h1 | ⟨fr1, cs1, w1, es, h1, h2, h3⟩
        · exact .inl h1
        · exact .inr ⟨_, _, _, _, h1, .inr ⟨h2, h3⟩⟩
    unfold runN at h
    rcases key with ⟨o, w1, es, e⟩ | ⟨fr1, cs1, w1, es, e, hi1⟩
    · rw [step_lone_ended (bare_ended e)] at h
      cases h
    · rw [step_lone_go (bare_go e)] at h
      exact .step e (ih hi1 h)

/-- where a call ends: the value is ready to be handed down. -/
def Done (P : Program) (R : Value → World → Prop) (fr : Frame) (cs : List Frame) (w : World) : Prop := cs = [c0] ∧ ∃ v, fr.leaving P w (.returned v) ∧ R v w

theorem must_of_calls (S : X.Set Fb wr (fun _ => false)) {f : FuncId} {as : Array Value} {w : World} (hinv : Inv X Fb wr (Frame.enter X.P f as .normal) [c0] w) {R : Value → World → Prop} (hR : ∀ v w τ, R v (re w τ) → R v w)
    (hc : ∀ τ, Agree w τ → Calls X.P f as (re w τ) fun | .returned v, w' => R v w' | _, _ => False) : LMust X.P (Done X.P R) (Frame.enter X.P f as .normal) [c0] w := by
  refine bar S (fun fr cs w h => ?_) (fun fr cs w τ hi ha h => ?_) hinv (fun τ ha => ?_)
  · obtain ⟨-, v, h, -⟩ := h
    intro ch e
    rw [h.1] at e; cases e
  · obtain ⟨e, v, ⟨h1, h2, h3, fn, h4, h5⟩, hr⟩ := h
    refine ⟨e, v, ⟨h1, h2, h3, fn, h4, ?_⟩, hR _ _ _ hr⟩
    obtain ⟨ρ, fr', up, up', w', e0, hf, -, hw, -, -⟩ := hi.re τ
    rcases hrun : (results fn fr.tmps).runT X.P (re w τ) #[] with ⟨r0, es0⟩
    have h5' : r0 = .ok v (re w τ) := by rw [← h5, ← Sem.runT_fst X.P _ _ #[], hrun]
    subst h5'
    obtain ⟨d1, d2, d3⟩ := (SS.results (f := fn) S.ok hf.tmps).loc hw hrun
    have := d3 w.tape (fun i q hi => (ha i q hi).symm)
    rw [← Sem.runT_fst X.P _ _ #[]]
    have e : re (re w τ) w.tape = w := rfl
    rw [e] at this
    rw [this]
    rfl
  · obtain ⟨e, w', fr, hRe, hcomes, hfn, hleave⟩ := hc τ ha [c0]
    cases e with
    | panicked chain => exact hRe.elim
    | outgrown => exact hRe.elim
    | returned v =>
      obtain ⟨n, hn⟩ := hcomes
      exact conv S (Q := Done X.P R) ⟨rfl, v, hleave, hRe⟩ n (.inl (hinv.re τ)) hn
end

end Go.Proofs.YtkpekiajdlolnaaGreat.Sim

/-
  THE SIMULATION, seventeenth text: A GOROUTINE IN COMPANY, told without a number: 'WG': whatever the others do outside its footprint F, it goes on, step by step, to a state in which Stop holds; it writes only what is its own (O) and what it makes. 'sim_go': what the lone run must come to, the run in company comes to.
-/
namespace Go.Proofs.YtkpekiajdlolnaaGreat.Sim
open Go Go.Conc

abbrev Blocks := Nat → Prop
/-- what the others may do: they leave the blocks in F. -/
structure Ext (F : Blocks) (w w1 : World) : Prop where
  size : w.heap.size ≤ w1.heap.size
  keep : ∀ b, F b → w1.heap[b]? = w.heap[b]?
theorem Ext.refl (F : Blocks) (w : World) : Ext F w w := ⟨Nat.le_refl _, fun _ _ => rfl⟩
theorem Ext.trans {F : Blocks} {a b c : World} (h : Ext F a b) (k : Ext F b c) : Ext F a c := ⟨Nat.le_trans h.size k.size, fun x hx => (k.keep x hx).trans (h.keep x hx)⟩
theorem Ext.sub {F F' : Blocks} {a b : World} (h : Ext F a b) (hs : ∀ x, F' x → F x) : Ext F' a b := ⟨h.size, fun x hx => h.keep x (hs x hx)⟩

/-- what it may list. -/
def EvF (F O : Blocks) (e : Event) : Prop :=
  match e.loc with
  | .cell a => e.sync = false ∧ F a.block ∧ (e.write = true → O a.block)
  | .obj r => e.sync = false ∧ F r ∧ (e.write = true → O r)
  | .mark .noRoom => True
  | _ => False
structure StepOK (F O : Blocks) (w : World) (F' O' : Blocks) (w' : World) (es : Array Event) : Prop where
  sub : ∀ b, F b → F' b
  subO : ∀ b, O b → O' b
  new : ∀ b, F' b → F b ∨ w.heap.size ≤ b
  newO : ∀ b, O' b → O b ∨ w.heap.size ≤ b
  own : ∀ b, O' b → F' b
  keep : ∀ b, b < w.heap.size → ¬ O b → w'.heap[b]? = w.heap[b]?
  size : w.heap.size ≤ w'.heap.size
  low : ∀ b, F' b → b < w'.heap.size
  drawn : ∃ d, w'.drawn = w.drawn + d
  tape : w'.tape = w.tape
  os : w'.os = w.os
  output : w'.output = w.output
  ev : ∀ e ∈ es, EvF F' O' e
  nb : NB w → NB w'

inductive Rank where
  | leaf
  | node (f : World → Rank)
def Rank.sub : Rank → Rank → Prop
  | r, .node f => ∃ w, r = f w
  | _, .leaf => False
theorem Rank.wf : WellFounded Rank.sub := ⟨fun r => by
  induction r with
  | leaf => exact ⟨_, fun y h => h.elim⟩
  | node f ih => exact ⟨_, fun y ⟨w, e⟩ => e ▸ ih w⟩⟩

section
variable (P : Program) (main : Bool) (Stop : Blocks → Blocks → Goroutine → World → Prop)
def WGo : Rank → Blocks → Blocks → Goroutine → World → Prop
  | .leaf, F, O, g, w => ∀ w1, Ext F w w1 → Stop F O g w1
  | .node f, F, O, g, w => g.status = .running ∧ ∀ w1, Ext F w w1 → ∃ F' O' g' w' es, stepG P main g w1 = .go g' w' es ∧ StepOK F O w1 F' O' w' es ∧ WGo (f w1) F' O' g' w'
def WG (F O : Blocks) (g : Goroutine) (w : World) : Prop := ∃ r, WGo P main Stop r F O g w
end

section
variable {P : Program} {main : Bool} {Stop Stop' : Blocks → Blocks → Goroutine → World → Prop} {F O : Blocks} {g : Goroutine} {w : World}
theorem WGo.ext {r : Rank} {w1 : World} (h : WGo P main Stop r F O g w) (e : Ext F w w1) : WGo P main Stop r F O g w1 := by
  cases r with
  | leaf => exact fun w2 e2 => h w2 (e.trans e2)
  | node f => exact ⟨h.1, fun w2 e2 => h.2 w2 (e.trans e2)⟩
theorem WG.stop (h : ∀ w1, Ext F w w1 → Stop F O g w1) : WG P main Stop F O g w := ⟨.leaf, h⟩
theorem WG.step (hr : g.status = .running) (h : ∀ w1, Ext F w w1 → ∃ F' O' g' w' es, stepG P main g w1 = .go g' w' es ∧ StepOK F O w1 F' O' w' es ∧ WG P main Stop F' O' g' w') : WG P main Stop F O g w := by
  classical
  have h' : ∀ w1, Ext F w w1 → ∃ r F' O' g' w' es, stepG P main g w1 = .go g' w' es ∧ StepOK F O w1 F' O' w' es ∧ WGo P main Stop r F' O' g' w' := fun w1 e => by
    obtain ⟨F', O', g', w', es, h1, h2, r, h3⟩ := h w1 e
    exact ⟨r, F', O', g', w', es, h1, h2, h3⟩
  refine ⟨.node fun w1 => if e : Ext F w w1 then (h' w1 e).choose else .leaf, hr, fun w1 e => ?_⟩
  have er : (if e : Ext F w w1 then (h' w1 e).choose else Rank.leaf) = (h' w1 e).choose := dif_pos e
  show ∃ F' O' g' w' es, _ ∧ _ ∧ WGo P main Stop (if e : Ext F w w1 then (h' w1 e).choose else Rank.leaf) F' O' g' w'
  rw [er]
  exact (h' w1 e).choose_spec
theorem WG.ext {w1 : World} (h : WG P main Stop F O g w) (e : Ext F w w1) : WG P main Stop F O g w1 := let ⟨r, h⟩ := h; ⟨r, h.ext e⟩
/-- at a stop it goes on. -/
theorem WG.then (h : WG P main Stop F O g w) (k : ∀ F O g w, Stop F O g w → WG P main Stop' F O g w) : WG P main Stop' F O g w := by
  obtain ⟨r, h⟩ := h
  induction r generalizing F O g w with
  | leaf => exact k _ _ _ _ (h w (Ext.refl ..))
  | node f ih =>
    refine WG.step h.1 fun w1 e => ?_
    obtain ⟨F', O', g', w', es, h1, h2, h3⟩ := h.2 w1 e
    exact ⟨F', O', g', w', es, h1, h2, ih w1 h3⟩
end

section
variable {X : Cx} {Fb : FuncId → Bool} {wr : Bool} {sp : FuncId → Bool}

/-- the two worlds, but for what the tape will say. -/
def WN (X : Cx) (ρ : Rel) (w w' : World) : Prop := ∃ τ, Agree w τ ∧ WR X ρ (re w τ) w'
def rng (ρ : Rel) : Blocks := fun b => ∃ a, ρ a b
def own (X : Cx) (ρ : Rel) : Blocks := fun b => ∃ a, ρ a b ∧ ¬ X.Sh a
theorem WN.of {ρ : Rel} {w w' : World} (h : WR X ρ w w') : WN X ρ w w' := ⟨w.tape, fun _ _ _ => rfl, h⟩
theorem WN.ext {ρ : Rel} {w w' w1 : World} (h : WN X ρ w w') (e : Ext (rng ρ) w' w1) : WN X ρ w w1 := by
  obtain ⟨τ, h1, h2⟩ := h
  refine ⟨fun i q => if i < w.drawn then w.tape i q else w1.tape (w1.drawn + (i - w.drawn)) q, fun i q hi => if_pos hi, h2.fn, h2.inj, fun {a b} hab => ?_, fun i q => ?_, h2.sh⟩
  · obtain ⟨o, o', k1, k2, k3⟩ := h2.heap hab
    exact ⟨o, o', k1, (e.keep b ⟨a, hab⟩).trans k2, k3⟩
  · show (if w.drawn + i < w.drawn then _ else _) = _
    have e1 : (re w fun i q => if i < w.drawn then w.tape i q else w1.tape (w1.drawn + (i - w.drawn)) q).drawn = w.drawn := rfl
    rw [e1, if_neg (by omega)]
    congr 1
    omega

theorem stepOK_of {ρ ρ1 : Rel} {w w' w1 w1' : World} {es : Array Event} (hw : WR X ρ w w') (h : Eff X ρ ρ1 w' w1' w) (h1 : WR X ρ1 w1 w1') (hev : ∀ e ∈ es, EvOK X ρ1 e) : StepOK (rng ρ) (own X ρ) w' (rng ρ1) (own X ρ1) w1' es := by
  refine ⟨fun b ⟨a, hab⟩ => ⟨a, h.le _ _ hab⟩, fun b ⟨a, hab, hn⟩ => ⟨a, h.le _ _ hab, hn⟩, fun b ⟨a, hab⟩ => ?_, fun b ⟨a, hab, hn⟩ => ?_, fun b ⟨a, hab, _⟩ => ⟨a, hab⟩, fun b hb hn => h.keep b hb fun a hab => Classical.byContradiction fun hs => hn ⟨a, hab, hs⟩, h.size, fun b ⟨a, hab⟩ => (h1.bound hab).2, h.drawn, h.tape, h.os, h.output, fun e he => ?_, fun _ => trivial⟩
  · exact (h.new a b hab).imp (fun x => ⟨a, x⟩) (·.2)
  · exact (h.new a b hab).imp (fun x => ⟨a, x, hn⟩) (·.2)
  · have := hev e he
    obtain ⟨loc, wt, sy⟩ := e
    cases loc with
    | cell a => exact ⟨this.1, let ⟨b, x, _⟩ := this.2; ⟨b, x⟩, fun hw => let ⟨b, x, y⟩ := this.2; ⟨b, x, y hw⟩⟩
    | obj r => exact ⟨this.1, let ⟨b, x, _⟩ := this.2; ⟨b, x⟩, fun hw => let ⟨b, x, y⟩ := this.2; ⟨b, x, y hw⟩⟩
    | mark m => cases m <;> first | trivial | exact this.elim
    | _ => exact this.elim

/-- where the run in company stops: the lone one has come to Q; or a function with two bodies is entered. -/
inductive SStop (X : Cx) (Fb : FuncId → Bool) (wr : Bool) (sp : FuncId → Bool) (base' : List Frame) (Q : Frame → List Frame → World → Prop) : Blocks → Blocks → Goroutine → World → Prop
  | done {ρ : Rel} {fr fr' : Frame} {up up' : List Frame} {w w' : World} : FR X Fb wr ρ fr fr' → FsR X Fb wr ρ up up' → WN X ρ w w' → NB w → Bot (fr :: up) → Q fr (up ++ [c0]) w → SStop X Fb wr sp base' Q (rng ρ) (own X ρ) (G fr' (up' ++ base')) w'
  | special {ρ : Rel} {fr fr' : Frame} {up up' : List Frame} {f : FuncId} {as as' : Array Value} {w w' : World} : X.F f → sp f = true → VsR X.F ρ as.toList as'.toList → FR X Fb wr ρ fr fr' → FsR X Fb wr ρ up up' → WN X ρ w w' → NB w → Bot (fr :: up) →
      LMust X.P Q (Frame.enter X.P f as .normal) (fr :: up ++ [c0]) w → SStop X Fb wr sp base' Q (rng ρ) (own X ρ) (G (Frame.enter X.P' f as' .normal) (fr' :: up' ++ base')) w'

theorem end_panics (S : X.Set Fb wr sp) {ρ : Rel} {fr fr' : Frame} {w w' : World} (hf : FR X Fb wr ρ fr fr') (hw : WR X ρ w w') (hn : NB w) (hgo : ¬ (fr.mode = .run ∨ fr.defers ≠ [])) {fr1 : Frame} {cs1 : List Frame} {w1 : World} {es : Array Event}
    (hs : stepG X.P true (G fr [c0]) w = .go (G fr1 cs1) w1 es) : NB w1 ∧ Panicky fr1 cs1 w1 := by
  obtain ⟨fn, tmps, todo, defers, mode, kind, ro⟩ := fr
  obtain rfl : kind = .normal := hf.kind
  have hd : defers = [] := Classical.byContradiction fun h => hgo (.inr h)
  have hm : mode = .returning := hf.run.resolve_left fun h => hgo (.inl h)
  subst hd; subst hm
  rw [stepG_ret _ _ _ _ _ rfl] at hs
  obtain ⟨f, q1, q2⟩ := hf.same
  have q1 : X.P.funcs[fn]? = some f := q1
  unfold unwind at hs
  dsimp only at hs
  rw [q1] at hs
  dsimp only at hs
  rcases hr : (results f tmps).runT X.P w #[] with ⟨r0, es0⟩
  rw [hr] at hs
  cases r0 with
  | halt h wx => cases h <;> cases hs
  | ok v wx =>
    obtain ⟨ρ1, v', w1', es1, h1, h2, h3, h4, h5, h6, h7⟩ := res_ok (SS.results S.ok hf.tmps) hw hr
    cases hs
    exact ⟨trivial, ⟨[], rfl⟩, .inr ⟨_, [], rfl, rfl⟩⟩

/-- ████ WHAT THE LONE RUN MUST COME TO, THE RUN IN COMPANY COMES TO. ████ -/
theorem sim_go (S : X.Set Fb wr sp) (main : Bool) (base' : List Frame) {Q : Frame → List Frame → World → Prop} (hQ : ∀ fr cs w, Q fr cs w → ∀ ch, fr.mode ≠ .panicking ch) : ∀ {fr : Frame} {cs : List Frame} {w : World}, LMust X.P Q fr cs w →
    ∀ {ρ : Rel} {fr' : Frame} {up up' : List Frame} {w' : World}, cs = up ++ [c0] → FR X Fb wr ρ fr fr' → FsR X Fb wr ρ up up' → WN X ρ w w' → NB w → Bot (fr :: up) →
      WG X.P' main (SStop X Fb wr sp base' Q) (rng ρ) (own X ρ) (G fr' (up' ++ base')) w' := by
  intro fr cs w h
  induction h with
  | done hq =>
    rintro ρ fr' up up' w' rfl hf hu hw hn hB
    exact WG.stop fun w1 e => .done hf hu (hw.ext e) hn hB hq
  | @step fr cs w nf nc nw ne hs hm ih =>
    rintro ρ fr' up up' w' rfl hf hu hw hn hB
    refine WG.step rfl fun w1 e => ?_
    obtain ⟨τ, ha, hw⟩ := hw.ext e
    have hs := hs τ ha
    have hm := hm τ ha
    have ih := @ih τ ha
    have hs : stepG X.P true (G fr (up ++ [c0])) (re w τ) = _ := hs
    by_cases hgo : fr.mode = .run ∨ fr.defers ≠ [] ∨ up ≠ []
    · have out := sim_step S (base := [c0]) (base' := base') hf hu hw hn hB hgo true main
      rw [hs] at out
      generalize nf τ = fr1, nc τ = cs1, nw τ = w1l, ne τ = es1 at *
      generalize hg : GStep.go (G fr1 cs1) w1l es1 = s at out
      cases out with
      | nice e h1 h2 h3 h4 h5 h6 h7 h8 =>
        cases hg
        exact ⟨_, _, _, _, _, e, stepOK_of hw h4 h3 h6, ih rfl h1 h2 (WN.of h3) h7 h8⟩
      | special k1 k2 e h0 h1 h2 h3 h4 h5 h6 h7 h8 =>
        cases hg
        exact ⟨_, _, _, _, _, e, stepOK_of hw h4 h3 h6, WG.stop fun w2 e2 => .special k1 k2 h0 h1 h2 ((WN.of h3).ext e2) h7 h8 hm⟩
      | panic h1 h2 =>
        cases hg
        exact (must_no_panic hQ hm trivial ⟨_, rfl⟩ (.inl ⟨_, rfl, h1, h2⟩)).elim
      | ended => cases hg
    · have hup : up = [] := Classical.byContradiction fun h => hgo (.inr (.inr h))
      subst hup
      obtain ⟨h1, h2, h3⟩ := end_panics S hf hw hn (fun h => hgo (h.imp id .inl)) hs
      exact (must_no_panic hQ hm h1 h2 h3).elim
end

end Go.Proofs.YtkpekiajdlolnaaGreat.Sim

/-
  THE PHASE, first text: GOROUTINE 0's STRETCH BESIDE LEAVERS, told without a number ('WG'): the machine carries it out, on whatever tape.
-/
namespace Go.Proofs.YtkpekiajdlolnaaGreat.Ph
open Go Go.Conc Go.Proofs.YtkpekiajdlolnaaGreat.Sim
open Go.ConcN (sumTo upd sumTo_upd upd_ne upd_same)

/-- every place that the operation touches lies in a block below B. -/
def LowT (B : Nat) (x : MemAct) : Prop := ∀ y, x.touch? = some y → y.loc.low B
theorem lowT_of {B : Nat} {x : MemAct} (h : x.low B) : LowT B x := by
  intro y hy
  cases x with
  | access e => simp only [MemAct.touch?, Option.some.injEq] at hy; subst hy; exact h
  | mark m => cases m <;> first | (cases hy; done) | (simp only [MemAct.touch?, Option.some.injEq] at hy; subst hy; exact h)
  | _ => cases hy
theorem LowT.mono {B B' : Nat} (h : B ≤ B') {x : MemAct} (hx : LowT B x) : LowT B' x := fun y hy => Loc.low_mono h (hx y hy)
theorem seenT_app {B : Nat} {t u : Trace} (h : ∀ op ∈ t, LowT B op.act) (hu : ∀ op ∈ u, LowT B op.act) : ∀ op ∈ t ++ u, LowT B op.act := fun op hop => (Array.mem_append.1 hop).elim (h op) (hu op)
theorem low_some (x : MemAct) : ∃ B, x.low B := by
  cases x with
  | access e =>
    obtain ⟨l, wt, sy⟩ := e
    cases l with
    | cell a => exact ⟨a.block + 1, Nat.lt_succ_self _⟩
    | obj r => exact ⟨r + 1, Nat.lt_succ_self _⟩
    | _ => exact ⟨0, trivial⟩
  | mark m =>
    cases m with
    | acquire a | release a | releaseMerge a | read a | write a => exact ⟨a.block + 1, Nat.lt_succ_self _⟩
    | _ => exact ⟨0, trivial⟩
  | go _ | start => exact ⟨0, trivial⟩
  | send c _ | sendDone c _ | recv c _ _ | recvDone c _ | close c | recvClosed c => exact ⟨c + 1, Nat.lt_succ_self _⟩
theorem low_all (t : Trace) : ∃ B, ∀ op ∈ t, op.act.low B := by
  obtain ⟨l⟩ := t
  induction l with
  | nil => exact ⟨0, by simp⟩
  | cons x l ih =>
    obtain ⟨B, h⟩ := ih
    obtain ⟨B', h'⟩ := low_some x.act
    refine ⟨max B B', fun op hop => ?_⟩
    simp only [List.mem_toArray, List.mem_cons] at hop
    rcases hop with rfl | hop
    · exact MemAct.low_mono (Nat.le_max_right ..) h'
    · exact MemAct.low_mono (Nat.le_max_left ..) (h op (by simpa using hop))

/-- the places that nobody touches but atomically: the cells of blocks in SB. -/
def ShB (SB : Blocks) : Loc → Prop := fun l => ∃ a, l = .cell a ∧ SB a.block

/-- what is held of the trace between two phases. -/
structure PastW (SB : Blocks) (w : World) (n : Nat) (t : Trace) : Prop where
  past : ∃ B, Past (ShB SB) B t
  seen : ∀ op ∈ t, LowT w.heap.size op.act
  mem : ∀ i a, touchAt t i = some a → a.loc.isMemory = true
  quiet : Quiet (ShB SB) t
  gs : ∀ op ∈ t, op.g < n
structure FootOK (SB F O : Blocks) (w : World) : Prop where
  apart : ∀ b, F b → ¬ SB b
  low : ∀ b, SB b → b < w.heap.size
  own : ∀ b, O b → F b
  foot : ∀ b, F b → b < w.heap.size

theorem evL_of {SB F O : Blocks} {B : Nat} {e : Event} (h : EvF F O e) (ha : ∀ b, F b → ¬ SB b) (hB : ∀ b, F b → b < B) : EvL (ShB SB) B e := by
  obtain ⟨loc, wt, sy⟩ := e
  cases loc with
  | cell a =>
    obtain ⟨h1, h2, h3⟩ := h
    have h1 : sy = false := h1
    subst h1
    refine evL_cell a wt ?_ (hB _ h2)
    rintro ⟨a', e, hs⟩
    cases e
    exact ha _ h2 hs
  | obj r =>
    obtain ⟨h1, h2, h3⟩ := h
    have h1 : sy = false := h1
    subst h1
    have e0 : MemAct.ofEvent ⟨.obj r, wt, false⟩ = .access ⟨.obj r, wt, false⟩ := by cases wt <;> rfl
    refine ⟨fun x hx hs => ?_, by simp, by simp, by rw [e0]; exact hB _ h2⟩
    obtain ⟨a', e, hs⟩ := hs
    rw [e0] at hx
    simp only [MemAct.touch?, Option.some.injEq] at hx
    subst hx
    cases e
  | mark m =>
    cases m with
    | noRoom => exact ⟨fun x hx => by simp [MemAct.ofEvent, MemAct.touch?] at hx, by simp, by simp, trivial⟩
    | _ => exact h.elim
  | _ => exact h.elim

theorem mem_app {t u : Trace} (h : ∀ i a, touchAt t i = some a → a.loc.isMemory = true) (hu : ∀ op ∈ u, ∀ x, op.act.touch? = some x → x.loc.isMemory = true) : ∀ i a, touchAt (t ++ u) i = some a → a.loc.isMemory = true := by
  intro i a ha
  obtain ⟨op, hop, hox⟩ := touch_of ha
  rcases getElem?_append_cases hop with ⟨hi, hop'⟩ | ⟨_, hopu⟩
  · exact h i a (by rw [touchAt_of hop']; exact hox)
  · exact hu op hopu a hox
theorem evF_mem {F O : Blocks} {e : Event} (h : EvF F O e) {y : Touch} (hy : (MemAct.ofEvent e).touch? = some y) : y.loc.isMemory = true ∧ y.kind = .plain ∧ ((∃ a, y.loc = .cell a ∧ F a.block) ∨ ∃ r, y.loc = .obj r ∧ F r) := by
  obtain ⟨loc, wt, sy⟩ := e
  cases loc with
  | cell b =>
    obtain ⟨h1, h2, h3⟩ := h
    have h1 : sy = false := h1
    subst h1
    rw [ofEvent_cell0] at hy
    simp only [MemAct.touch?, Option.some.injEq] at hy
    subst hy
    exact ⟨rfl, rfl, .inl ⟨b, rfl, h2⟩⟩
  | obj r =>
    obtain ⟨h1, h2, h3⟩ := h
    have h1 : sy = false := h1
    subst h1
    have e0 : MemAct.ofEvent ⟨.obj r, wt, false⟩ = .access ⟨.obj r, wt, false⟩ := by cases wt <;> rfl
    rw [e0] at hy
    simp only [MemAct.touch?, Option.some.injEq] at hy
    subst hy
    exact ⟨rfl, rfl, .inr ⟨r, rfl, h2⟩⟩
  | mark m =>
    cases m with
    | noRoom => simp [MemAct.ofEvent, MemAct.touch?] at hy
    | _ => exact h.elim
  | _ => exact h.elim

theorem PastW.own {SB F O F' O' : Blocks} {w w' : World} {n : Nat} {t : Trace} (h : PastW SB w n t) (hn : 0 < n) {es : Array Event} (hok : StepOK F O w F' O' w' es) (hf : FootOK SB F' O' w') (fn : FuncId) (pos : String) :
    PastW SB w' n (t ++ MemOp.ofEvents 0 fn pos es) := by
  have hev : ∀ e ∈ es, EvL (ShB SB) w'.heap.size e := fun e he => evL_of (hok.ev e he) hf.apart hf.foot
  obtain ⟨B, hP⟩ := h.past
  refine ⟨⟨max B w'.heap.size, (hP.mono (Nat.le_max_left ..)).own fun e he => ?_⟩, seenT_app (fun op hop => (h.seen op hop).mono hok.size) (fun op hop => ?_), mem_app h.mem (fun op hop x hx => ?_), h.quiet.app fun op hop x hx hs => ?_, fun op hop => ?_⟩
  · have := hev e he
    exact ⟨this.1, this.2.1, this.2.2.1, MemAct.low_mono (Nat.le_max_right ..) this.2.2.2⟩
  · obtain ⟨e, he, rfl⟩ := Go.Conc.mem_ofEvents hop
    exact lowT_of (hev e he).2.2.2
  · obtain ⟨e, he, rfl⟩ := Go.Conc.mem_ofEvents hop
    exact (evF_mem (hok.ev e he) hx).1
  · obtain ⟨e, he, rfl⟩ := Go.Conc.mem_ofEvents hop
    have h1 := hev e he
    refine ⟨h1.1 x hx hs, fun _ => rfl⟩
  · rcases Array.mem_append.1 hop with h' | h'
    · exact h.gs op h'
    · obtain ⟨e, he, rfl⟩ := Go.Conc.mem_ofEvents h'
      exact hn
theorem PastW.mute {SB : Blocks} {w : World} {n : Nat} {t : Trace} (h : PastW SB w n t) {g : Nat} (hg : g ≠ 0) (hgn : g < n) {fn : FuncId} {pos : String} {es : Array Event} (hm : ∀ e ∈ es, e.mute = true) :
    PastW SB w n (t ++ MemOp.ofEvents g fn pos es) := by
  obtain ⟨B, hP⟩ := h.past
  refine ⟨⟨B, hP.mute hg hm⟩, seenT_app h.seen (fun op hop => ?_), mem_app h.mem (fun op hop x hx => ?_), h.quiet.app fun op hop x hx hs => ?_, fun op hop => ?_⟩
  · obtain ⟨e, he, rfl⟩ := Go.Conc.mem_ofEvents hop
    exact lowT_of (low_mute (hm e he) _)
  · obtain ⟨e, he, rfl⟩ := Go.Conc.mem_ofEvents hop
    rw [touch_mute (hm e he)] at hx; cases hx
  · obtain ⟨e, he, rfl⟩ := Go.Conc.mem_ofEvents hop
    rw [touch_mute (hm e he)] at hx
    cases hx
  · rcases Array.mem_append.1 hop with h' | h'
    · exact h.gs op h'
    · obtain ⟨e, he, rfl⟩ := Go.Conc.mem_ofEvents h'
      exact hgn
theorem FootOK.step {SB F O F' O' : Blocks} {w w' : World} (h : FootOK SB F O w) {es : Array Event} (hok : StepOK F O w F' O' w' es) : FootOK SB F' O' w' :=
  ⟨fun b hb hs => (hok.new b hb).elim (fun x => h.apart b x hs) (fun x => by have := h.low b hs; omega), fun b hb => Nat.lt_of_lt_of_le (h.low b hb) hok.size, hok.own, hok.low⟩

/-- what a stretch leaves. -/
structure Left (F O : Blocks) (w : World) (F' O' : Blocks) (w' : World) : Prop where
  sub : ∀ b, F b → F' b
  subO : ∀ b, O b → O' b
  new : ∀ b, F' b → F b ∨ w.heap.size ≤ b
  newO : ∀ b, O' b → O b ∨ w.heap.size ≤ b
  keep : ∀ b, b < w.heap.size → ¬ O b → w'.heap[b]? = w.heap[b]?
  size : w.heap.size ≤ w'.heap.size
  tape : w'.tape = w.tape
  os : w'.os = w.os
  output : w'.output = w.output
theorem Left.refl (F O : Blocks) (w : World) : Left F O w F O w := ⟨fun _ h => h, fun _ h => h, fun _ h => .inl h, fun _ h => .inl h, fun _ _ _ => rfl, Nat.le_refl _, rfl, rfl, rfl⟩
theorem Left.trans {F O F1 O1 F2 O2 : Blocks} {w w1 w2 : World} (h : Left F O w F1 O1 w1) (k : Left F1 O1 w1 F2 O2 w2) : Left F O w F2 O2 w2 := by
  refine ⟨fun b x => k.sub b (h.sub b x), fun b x => k.subO b (h.subO b x), fun b x => ?_, fun b x => ?_, fun b hb hn => ?_, Nat.le_trans h.size k.size, k.tape.trans h.tape, k.os.trans h.os, k.output.trans h.output⟩
  · rcases k.new b x with y | y
    · exact h.new b y
    · exact .inr (Nat.le_trans h.size y)
  · rcases k.newO b x with y | y
    · exact h.newO b y
    · exact .inr (Nat.le_trans h.size y)
  · rw [k.keep b (Nat.lt_of_lt_of_le hb h.size) (fun y => (h.newO b y).elim hn (fun z => by omega)), h.keep b hb hn]
theorem Left.step {F O F' O' : Blocks} {w w' : World} {es : Array Event} (h : StepOK F O w F' O' w' es) : Left F O w F' O' w' := ⟨h.sub, h.subO, h.new, h.newO, h.keep, h.size, h.tape, h.os, h.output⟩

section
variable {P : Program} {SB : Blocks} {Stop : Blocks → Blocks → Goroutine → World → Prop}

/-- ████ THE STRETCH BESIDE LEAVERS. ████ -/
theorem beside_wg : ∀ (r : Rank) (M : Nat) (gs : Array Goroutine) (a : Goroutine) (w : World) (sl : Option (Nat × Nat)) (t : Trace) (q : Nat → Nat) (F O : Blocks), sumTo gs.size q ≤ M → gs[0]? = some a → Leavers P t gs q → PastW SB w gs.size t → FootOK SB F O w →
      WGo P true Stop r F O a w →
      ∃ (N : Nat) (gs' : Array Goroutine) (a' : Goroutine) (w' : World) (sl' : Option (Nat × Nat)) (t' : Trace) (q' : Nat → Nat) (F' O' : Blocks),
        runNT P N (crowd gs w sl) t = (.next (crowd gs' w' sl'), t') ∧ gs'.size = gs.size ∧ gs'[0]? = some a' ∧ Stop F' O' a' w' ∧ Leavers P t' gs' q' ∧ PastW SB w' gs'.size t' ∧ FootOK SB F' O' w' ∧ Left F O w F' O' w' := by
  intro r
  induction r with
  | leaf => exact fun M gs a w sl t q F O _ h0 hL hP hF h => ⟨0, gs, a, w, sl, t, q, F, O, rfl, rfl, h0, h w (Ext.refl ..), hL, hP, hF, Left.refl ..⟩
  | node f ihr =>
    intro M
    induction M with
    | zero | succ M ihM =>
      intro gs a w sl t q F O hM h0 hL hP hF h
      obtain ⟨hrun, hstep⟩ := h
      have haw : ∀ g ∈ gs, awake g := by
        intro g hg
        obtain ⟨i, hi, rfl⟩ := Array.mem_iff_getElem.1 hg
        rcases Nat.eq_zero_or_pos i with rfl | hpos
        · have : gs[0] = a := by simpa [Array.getElem?_eq_getElem hi] using h0
          rw [this]; exact awake_of (.inl hrun)
        · exact awake_of ((hL.old i _ hpos (Array.getElem?_eq_getElem hi)).status.elim .inl fun x => .inr (.inr x))
      have hpos0 : 0 < gs.size := (Array.getElem?_eq_some_iff.1 h0).1
      obtain ⟨i, g, d, sl', hi, hg, hst⟩ := crowd_pick (P := P) (w := w) (sl := sl) haw ⟨0, a, h0, hrun⟩
      have ed : Ext F w (w.at d) := ⟨Nat.le_refl _, fun _ _ => rfl⟩
      have ld : Left F O w F O (w.at d) := ⟨fun _ h => h, fun _ h => h, fun _ h => .inl h, fun _ h => .inl h, fun _ _ _ => rfl, Nat.le_refl _, rfl, rfl, rfl⟩
      have hPd : PastW SB (w.at d) gs.size t := ⟨hP.past, hP.seen, hP.mem, hP.quiet, hP.gs⟩
      have hFd : FootOK SB F O (w.at d) := ⟨hF.apart, hF.low, hF.own, hF.foot⟩
      rcases Nat.eq_zero_or_pos i with rfl | hpos
      · obtain rfl : g = a := by rw [h0] at hi; exact (Option.some.inj hi).symm
        obtain ⟨F', O', a', w', es, hgo, hok, hG'⟩ := hstep (w.at d) ed
        have hrunT := runT_crowd_go (P := P) (sl := sl') (i := 0) hi (show stepG P (0 == 0) g (w.at d) = _ from hgo)
        have hsz : ((gs.map (woken P g a' w')).setIfInBounds 0 a').size = gs.size := by simp
        have hF' := hFd.step hok
        obtain ⟨N, gs', a'', w'', sl'', t', q', F'', O'', hr, hs', h0', hS, hL', hP', hF'', hl⟩ := ihr (w.at d) (sumTo gs.size q) ((gs.map (woken P g a' w')).setIfInBounds 0 a') a' w' sl' (t ++ MemOp.ofEvents 0 g.frame.fn g.frame.place es) q F' O' (by rw [hsz]; exact Nat.le_refl _) (by simp [hpos0])
          ⟨fun j x hj hx => by
            have hne : 0 ≠ j := by omega
            rw [Array.getElem?_setIfInBounds_ne hne, Array.getElem?_map] at hx
            obtain ⟨y, hy, rfl⟩ := Option.map_eq_some_iff.1 hx
            have hq := hL.old j y hj hy
            rw [woken_quitsD hq, Deaf_other t (by omega) _ (fun op hop => by obtain ⟨e, _, rfl⟩ := Go.Conc.mem_ofEvents hop; rfl)]
            exact hq, fun j hj => by
            rw [Deaf_other t (g' := 0) (by simp at hj; omega) _ (fun op hop => by obtain ⟨e, _, rfl⟩ := Go.Conc.mem_ofEvents hop; rfl)]
            exact hL.above j (by simpa using hj)⟩
          (by rw [hsz]; exact hPd.own hpos0 hok hF' _ _) hF' hG'
        exact ⟨N + 1, gs', a'', w'', sl'', t', q', F'', O'', by simp only [runNT, hst, hrunT]; exact hr, hs'.trans hsz, h0', hS, hL', hP', hF'', (ld.trans (Left.step hok)).trans hl⟩
      · have hq := hL.old i g hpos hi
        have hi0 : (i == 0) = false := by simp; omega
        have hlt : i < gs.size := (Array.getElem?_eq_some_iff.1 hi).1
        cases hqi : q i with
        | zero => rw [hqi] at hq; rw [hq.1] at hg; cases hg
        | succ k =>
          rw [hqi] at hq
          rcases hq with ⟨hf, _⟩ | ⟨_, g', es, hm, hstp, hq'⟩
          · rw [hf] at hg; cases hg
          have hrunT := runT_crowd_go (P := P) (sl := sl') (i := i) hi (by rw [hi0]; exact hstp (w.at d))
          have hsz : ((gs.map (woken P g g' (w.at d))).setIfInBounds i g').size = gs.size := by simp
          have hsum : sumTo gs.size (upd q i k) + (k + 1) = sumTo gs.size q + k := by
            have := sumTo_upd q k id hlt
            simpa [hqi] using this
          first
          | (exfalso; omega)
          | obtain ⟨N, gs', a'', w'', sl'', t', q', F'', O'', hr, hs', h0', hS, hL', hP', hF'', hl⟩ := ihM ((gs.map (woken P g g' (w.at d))).setIfInBounds i g') a (w.at d) sl' (t ++ MemOp.ofEvents i g.frame.fn g.frame.place es) (upd q i k) F O (by rw [hsz]; omega)
              (by
                have hne : i ≠ 0 := by omega
                rw [Array.getElem?_setIfInBounds_ne hne, Array.getElem?_map, h0]
                simp [woken_run hrun])
              ⟨fun j x hj hx => by
                by_cases hji : i = j
                · subst hji
                  rw [Array.getElem?_setIfInBounds_self_of_lt (by simpa using hlt)] at hx
                  obtain rfl := Option.some.inj hx
                  rw [upd_same, Deaf_own]
                  exact hq'
                · rw [Array.getElem?_setIfInBounds_ne hji, Array.getElem?_map] at hx
                  obtain ⟨y, hy, rfl⟩ := Option.map_eq_some_iff.1 hx
                  have hqj := hL.old j y hj hy
                  rw [woken_quitsD hqj, upd_ne q k (Ne.symm hji), Deaf_other t hji _ (fun op hop => by obtain ⟨e, _, rfl⟩ := Go.Conc.mem_ofEvents hop; rfl)]
                  exact hqj, fun j hj => by
                rw [Deaf_other t (g' := i) (by simp at hj; omega) _ (fun op hop => by obtain ⟨e, _, rfl⟩ := Go.Conc.mem_ofEvents hop; rfl)]
                exact hL.above j (by simpa using hj)⟩
              (by rw [hsz]; exact hPd.mute (by omega) hlt hm) hFd (WGo.ext (r := .node f) ⟨hrun, hstep⟩ ed)
            exact ⟨N + 1, gs', a'', w'', sl'', t', q', F'', O'', by simp only [runNT, hst, hrunT]; exact hr, hs'.trans hsz, h0', hS, hL', hP', hF'', ld.trans hl⟩
end

end Go.Proofs.YtkpekiajdlolnaaGreat.Ph

/-
  THE PHASE, second text: (*WaitGroup).Add(1) AND Wait IN COMPANY THAT MAKES MEMORY: goroutine 0's steps, under a rely that lets the others make what they like.
-/
namespace Go.Proofs.YtkpekiajdlolnaaGreat.Ph
open Go Go.Conc Go.ConcN Go.RowKit Go.Conc.Lib Go.ConcR.Gen Go.ConcN.Gen Go.Proofs.YtkpekiajdlolnaaGreat.Sim
open Go.ConcR (KK wgBlock WgAt stA smA rd wr mk DC0)
variable {L : WgLink}

/-- what goroutine 0 suffers: the blocks in F stand; the group's block stays one. -/
structure RM (ty : TypeId) (Wg : Nat) (F : Blocks) (w w1 : World) : Prop where
  ext : Ext F w w1
  live : WgLive ty Wg w → WgLive ty Wg w1
theorem rm_rely {ty : TypeId} {Wg : Nat} {F : Blocks} {w w1 : World} (h : WgLive ty Wg w) (r : RM ty Wg F w w1) : WgLive ty Wg w1 := r.live h

theorem rm_trans {ty : TypeId} {Wg : Nat} {F : Blocks} (a b c : World) (h : RM ty Wg F a b) (k : RM ty Wg F b c) : RM ty Wg F a c := ⟨h.ext.trans k.ext, k.live ∘ h.live⟩
section
variable (P : Program) (ty : TypeId) (Wg : Nat) (F : Blocks)
def MG (Stop : Goroutine → World → Prop) (g : Goroutine) (w : World) : Prop := ∃ m, Goes P true (RM ty Wg F) DC0 Stop m g w
def AtMk (m : Mark) (K : Goroutine → World → Prop) (g : Goroutine) (w : World) : Prop :=
  g.status = .running ∧ ∃ g', stepG P true g w = .go g' w #[mk m] ∧ K g' w
/-- the atomic add of 1, whatever the count: where the count comes to 1 the library says that it reads the semaphore's cell. -/
def AtAdd (K : Goroutine → World → Prop) (g : Goroutine) (w : World) : Prop :=
  g.status = .running ∧ ∀ v : Nat, v < 2147483647 → WgAt ty Wg w (v * KK) 0 →
    ∃ g', stepG P true g w = .go g' (w.setCell (stA Wg) (.int .u64 ((v + 1) * KK))) #[rd (stA Wg), wr (stA Wg)] ∧
      ((v = 0 ∧ MG P ty Wg F (AtMk P (.read (smA Wg)) (MG P ty Wg F (AtMk P .enable K))) g' (w.setCell (stA Wg) (.int .u64 ((v + 1) * KK)))) ∨
       (v ≠ 0 ∧ MG P ty Wg F (AtMk P .enable K) g' (w.setCell (stA Wg) (.int .u64 ((v + 1) * KK)))))
end

section
variable (P : Program) (ty : TypeId) (Wg : Nat) (F : Blocks)
/-- behind the load that reads 0: enable, acquire, and on. -/
def AtOut (K : Goroutine → World → Prop) : Goroutine → World → Prop := MG P ty Wg F (AtMk P .enable (MG P ty Wg F (AtMk P (.acquire (stA Wg)) K)))
def AtLd2 (K : Goroutine → World → Prop) (g : Goroutine) (w : World) : Prop :=
  g.status = .running ∧ (WgAt ty Wg w 0 0 → ∃ g', stepG P true g w = .go g' w #[rd (stA Wg)] ∧ AtOut P ty Wg F K g' w)
def AtSem (K : Goroutine → World → Prop) (g : Goroutine) (w : World) : Prop :=
  g.status = .running ∧ g.offers = none ∧ ((∃ st, WgAt ty Wg w st 0) → stepG P true g w = .go { g with status := .blocked } w #[]) ∧
    (WgAt ty Wg w 0 1 → ∃ g', stepG P true g w = .go g' (w.setCell (smA Wg) (.int .u32 0)) (semEvents (smA Wg)) ∧ MG P ty Wg F (AtLd2 P ty Wg F K) g' (w.setCell (smA Wg) (.int .u32 0)))
/-- the CompareAndSwap, 'vs' having been seen: it hits, or misses: back to the loop's head. -/
def AtCas (A : Goroutine → World → Prop) (K : Goroutine → World → Prop) (vs : Nat) (g : Goroutine) (w : World) : Prop :=
  g.status = .running ∧ ∀ v : Nat, v < 2147483648 → WgAt ty Wg w (v * KK) 0 →
    (v = vs → ∃ g', stepG P true g w = .go g' (w.setCell (stA Wg) (.int .u64 (v * KK + 1))) #[rd (stA Wg), wr (stA Wg)] ∧ MG P ty Wg F (AtMk P (.write (smA Wg)) (MG P ty Wg F (AtSem P ty Wg F K))) g' (w.setCell (stA Wg) (.int .u64 (v * KK + 1)))) ∧
    (v ≠ vs → ∃ g', stepG P true g w = .go g' w #[rd (stA Wg)] ∧ MG P ty Wg F A g' w)
def AtLd (A : Goroutine → World → Prop) (K : Goroutine → World → Prop) (g : Goroutine) (w : World) : Prop :=
  g.status = .running ∧ ∀ v : Nat, v < 2147483648 → WgAt ty Wg w (v * KK) 0 → ∃ g', stepG P true g w = .go g' w #[rd (stA Wg)] ∧
    (v = 0 → AtOut P ty Wg F K g' w) ∧ (v ≠ 0 → MG P ty Wg F (AtCas P ty Wg F A K v) g' w)
end
/-- the head of Wait's loop. -/
def Anch (L : WgLink) (Wg : Nat) (c : Frame) (cs : List Frame) (g : Goroutine) (w : World) : Prop :=
  ∃ T : Array Value, g = G ((base L.wait).at ⟨T, []⟩ [.code (L7 L), .inLoop (L7 L), .inBlock 0]) (c :: cs) ∧ T.size = 84 ∧ T[0]? = some (.pointer (some ⟨Wg, 0, none⟩)) ∧ WgLive L.tWg Wg w

section
variable {P : Program} {Wg : Nat} {F : Blocks} {b₀ : Frame} {a₀ : Act} {ops₀ : Array Oper} {i₀ : Nat} {rest₀ : List Nat} {k₀ : List Item} {cs : List Frame}

set_option maxRecDepth 100000 in
set_option maxHeartbeats 8000000 in
theorem add1 (H : WgLib P L) {K : Goroutine → World → Prop} {mT : Nat}
    (hT : ∀ w, WgLive L.tWg Wg w → Goes P true (RM L.tWg Wg F) DC0 K mT (G (b₀.at (a₀.put ((ops₀[i₀]?).bind (·.dst)) (.tuple #[])) (.inRegion ops₀ rest₀ :: k₀)) cs) w)
    (w : World) (hF : WgLive L.tWg Wg w) :
    MG P L.tWg Wg F (AtMk P .disable (MG P L.tWg Wg F (AtAdd P L.tWg Wg F (MG P L.tWg Wg F K))))
      (G ((base L.add).at ⟨#[.pointer (some ⟨Wg, 0, none⟩), .int .i64 1, undef, undef, undef, undef, undef, undef, undef, undef, undef, undef, undef, undef, undef, undef, undef, undef, undef, undef, undef, undef, undef, undef, undef, undef, undef, undef, undef, undef, undef, undef, undef, undef, undef, undef, undef, undef, undef, undef, undef, undef, undef, undef, undef, undef, undef, undef, undef, undef, undef, undef, undef, undef, undef, undef, undef, undef, undef, undef, undef, undef, undef, undef, undef, undef, undef, undef, undef, undef, undef, undef, undef, undef, undef, undef, undef, undef, undef, undef, undef, undef, undef, undef, undef, undef, undef, undef, undef, undef, undef, undef, undef, undef, undef, undef, undef, undef, undef, undef, undef, undef, undef, undef, undef, undef, undef, undef, undef, undef, undef, undef, undef, undef, undef, undef, undef], []⟩ [.code (body_add L)]) (b₀.at a₀ (.inRegion ops₀ (i₀ :: rest₀) :: k₀) :: cs)) w := by
  lib_facts
  simp only [body_add, addFn, Option.getD_some]
  refine ⟨40, ?_⟩
  u_c stepG_seq rm_rely hF
  u_cond true rm_rely hF
  u_c stepG_seq rm_rely hF
  u_c stepG_seq rm_rely hF
  u_reg rm_rely hF
  u_op rm_rely hF
  u_op rm_rely hF
  u_c stepG_region_end rm_rely hF
  u_cond false rm_rely hF
  u_c stepG_skip rm_rely hF
  u_c stepG_seq rm_rely hF
  u_reg rm_rely hF
  refine Goes.stop (fun w1 h1 => ?_)
  replace hF := rm_rely hF h1
  clear h1
  refine ⟨rfl, _, stepG_mark0 .disable (by simp) rfl rfl (by k_ne) rfl H.f_disable (x_disable_n L) (x_disable_b L) (x_disable_x L) (x_disable_f L), 60, ?_⟩
  walk_nrm
  u_c stepG_region_end rm_rely hF
  u_reg rm_rely hF
  u_defer rm_rely hF
  u_c stepG_region_end rm_rely hF
  u_c stepG_seq rm_rely hF
  u_reg rm_rely hF
  u_op rm_rely hF
  u_c stepG_region_end rm_rely hF
  u_c stepG_seq rm_rely hF
  u_c stepG_seq rm_rely hF
  u_reg rm_rely hF
  u_bub rm_rely hF
  u_c stepG_region_end rm_rely hF
  u_cond false rm_rely hF
  u_c stepG_skip rm_rely hF
  u_c stepG_seq rm_rely hF
  u_reg rm_rely hF
  u_op rm_rely hF
  u_op rm_rely hF
  u_op rm_rely hF
  u_op rm_rely hF
  u_op rm_rely hF
  u_op rm_rely hF
  u_call H.f_uAdd (nm_uAdd L) uAddFn rm_rely hF
  u_c stepG_seq rm_rely hF
  u_reg rm_rely hF
  u_op rm_rely hF
  u_c stepG_region_end rm_rely hF
  u_c stepG_seq rm_rely hF
  u_reg rm_rely hF
  u_op rm_rely hF
  u_op rm_rely hF
  u_op rm_rely hF
  u_op rm_rely hF
  refine Goes.stop (fun w2 h2 => ?_)
  replace hF := rm_rely hF h2
  clear h2
  refine ⟨rfl, fun v hv hw => ?_⟩
  rcases Nat.eq_zero_or_pos v with rfl | hvp
  · replace hw : WgAt L.tWg Wg w2 0 0 := by simpa using hw
    have z : (((0 : Nat) : Int) + 1) * KK = KK := by simp
    rw [z]
    have e0 : IntKind.u64.wrap (0 + 4294967296) = KK := by decide
    refine ⟨_, (stepG_add_atomic rfl rfl (by k_ne) rfl H.f_addU64 (x_addU64_n L) (x_addU64_b L) (x_addU64_x L) .u64 (x_addU64_f L) rfl rfl hw.cellSt (hw.thaw 0)).trans (by rw [e0]; rfl), .inl ⟨rfl, 120, ?_⟩⟩
    replace hF : WgLive L.tWg Wg (w2.setCell (stA Wg) (.int .u64 KK)) := ⟨_, _, hw.setSt _⟩
    clear hw
    simp only [KK] at hF ⊢
    walk_nrm
    u_op rm_rely hF
    u_c stepG_region_end rm_rely hF
    u_c stepG_ret' rm_rely hF
    u_leave1 H.f_uAdd rm_rely hF
    u_op rm_rely hF
    u_c stepG_region_end rm_rely hF
    u_c stepG_seq rm_rely hF
    u_c stepG_seq rm_rely hF
    u_reg rm_rely hF
    u_op rm_rely hF
    u_op rm_rely hF
    u_op rm_rely hF
    u_op rm_rely hF
    u_skip rm_rely hF
    u_skip rm_rely hF
    u_op rm_rely hF
    u_c stepG_region_end rm_rely hF
    u_cond false rm_rely hF
    u_c stepG_skip rm_rely hF
    u_c stepG_seq rm_rely hF
    u_reg rm_rely hF
    u_op rm_rely hF
    u_op rm_rely hF
    u_op rm_rely hF
    u_op rm_rely hF
    u_c stepG_region_end rm_rely hF
    u_c stepG_seq rm_rely hF
    u_reg rm_rely hF
    u_op rm_rely hF
    u_op rm_rely hF
    u_op rm_rely hF
    u_op rm_rely hF
    u_c stepG_region_end rm_rely hF
    u_c stepG_seq rm_rely hF
    u_c stepG_seq rm_rely hF
    u_reg rm_rely hF
    u_op rm_rely hF
    u_op rm_rely hF
    u_op rm_rely hF
    u_op rm_rely hF
    u_op rm_rely hF
    u_op rm_rely hF
    u_op rm_rely hF
    u_op rm_rely hF
    u_op rm_rely hF
    u_op rm_rely hF
    u_c stepG_region_end rm_rely hF
    u_cond true rm_rely hF
    u_reg rm_rely hF
    u_op rm_rely hF
    u_op rm_rely hF
    u_op rm_rely hF
    u_conv H.underlying_tPU32 H.room_tU32 (WgLive.cell1 hF).choose_spec rm_rely hF
    refine Goes.stop (fun w3 h3 => ?_)
    replace hF := rm_rely hF h3
    clear h3
    refine ⟨rfl, _, stepG_markAt .read (by simp) rfl rfl (by k_ne) rfl H.f_raceRead (x_raceRead_n L) (x_raceRead_b L) (x_raceRead_x L) (x_raceRead_f L) (ad := ⟨Wg, 1, none⟩) (by simp [Act.eval]), 120, ?_⟩
    walk_nrm
    u_c stepG_region_end rm_rely hF
    u_c stepG_seq rm_rely hF
    u_c stepG_seq rm_rely hF
    u_reg rm_rely hF
    u_op rm_rely hF
    u_op rm_rely hF
    u_c stepG_region_end rm_rely hF
    u_cond false rm_rely hF
    u_c stepG_skip rm_rely hF
    u_c stepG_seq rm_rely hF
    u_c stepG_seq rm_rely hF
    u_reg rm_rely hF
    u_op rm_rely hF
    u_op rm_rely hF
    u_op rm_rely hF
    u_skip rm_rely hF
    u_skip rm_rely hF
    u_op rm_rely hF
    u_op rm_rely hF
    u_skip rm_rely hF
    u_skip rm_rely hF
    u_skip rm_rely hF
    u_skip rm_rely hF
    u_op rm_rely hF
    u_c stepG_region_end rm_rely hF
    u_cond false rm_rely hF
    u_c stepG_skip rm_rely hF
    u_c stepG_seq rm_rely hF
    u_c stepG_seq rm_rely hF
    u_reg rm_rely hF
    u_op rm_rely hF
    u_op rm_rely hF
    u_op rm_rely hF
    u_skip rm_rely hF
    u_skip rm_rely hF
    u_op rm_rely hF
    u_c stepG_region_end rm_rely hF
    u_cond true rm_rely hF
    u_c stepG_ret' rm_rely hF
    refine Goes.stop (fun wq hq => ?_)
    replace hF := rm_rely hF hq
    clear hq
    refine ⟨rfl, _, stepG_unwind_entry (v := .tuple #[]) (evs := #[mk .enable]) rfl H.f_enable (x_enable_n L) (x_enable_b L) (x_enable_x L) (x_enable_f L) (by simp [Extern.Race.none_]) (by simp [mk]) (by simp [mk]), ?_⟩
    refine ⟨mT + 1, ?_⟩
    exact Goes.step rfl (fun wq hq => by
      refine goes_leave0 rfl rfl H.f_add rfl ⟨by u_nil, ?_⟩
      exact hT _ (rm_rely hF hq))
  · obtain ⟨V, hV⟩ : ∃ V : Int, V = (v : Int) + 1 := ⟨_, rfl⟩
    obtain ⟨S, hS⟩ : ∃ S : Int, S = V * KK := ⟨_, rfl⟩
    have eS : IntKind.u64.wrap ((v : Int) * KK + 4294967296) = S := by rw [IntKind.wrap_u64, hS, hV]; simp only [KK]; omega
    rw [← hV, ← hS]
    have a1 : S / 4294967296 = V := by rw [hS]; simp only [KK]; omega
    have b1 : bits .and .u64 S 2147483648 = 0 := by rw [hS, hV]; have := st_flag (v + 1) 0 (by omega) (by omega); simpa [KK] using this
    have b2 : bits .and .u64 S 2147483647 = 0 := by rw [hS, hV]; have := st_waiters (v + 1) 0 (by omega) (by omega); simpa [KK] using this
    have c1 : IntKind.i32.wrap V = V := by rw [IntKind.wrap_i32]; omega
    have hV1 : 1 < V := by omega
    have hV2 : V < 2147483648 := by omega
    have q1 : (V == 1) = false := by simp; omega
    have q2 : decide (V = 1) = false := decide_eq_false (by omega)
    have q3 : decide (V < 0) = false := decide_eq_false (by omega)
    have q4 : decide (0 < V) = true := decide_eq_true (by omega)
    have q5 : (V == 0) = false := by simp; omega
    have q6 : decide (V = 0) = false := decide_eq_false (by omega)
    refine ⟨_, (stepG_add_atomic rfl rfl (by k_ne) rfl H.f_addU64 (x_addU64_n L) (x_addU64_b L) (x_addU64_x L) .u64 (x_addU64_f L) rfl rfl hw.cellSt (hw.thaw 0)).trans (by rw [eS]; rfl), .inr ⟨by omega, 120, ?_⟩⟩
    replace hF : WgLive L.tWg Wg (w2.setCell (stA Wg) (.int .u64 S)) := ⟨_, _, hw.setSt _⟩
    clear hw hS hV eS
    walk_nrm
    u_op rm_rely hF
    u_c stepG_region_end rm_rely hF
    u_c stepG_ret' rm_rely hF
    u_leave1 H.f_uAdd rm_rely hF
    u_op rm_rely hF
    u_c stepG_region_end rm_rely hF
    u_c stepG_seq rm_rely hF
    u_c stepG_seq rm_rely hF
    u_reg rm_rely hF
    u_op rm_rely hF
    u_op rm_rely hF
    u_op rm_rely hF
    u_op rm_rely hF
    u_skip rm_rely hF
    u_skip rm_rely hF
    u_op rm_rely hF
    u_c stepG_region_end rm_rely hF
    u_cnd false rm_rely hF
    u_c stepG_skip rm_rely hF
    u_c stepG_seq rm_rely hF
    u_reg rm_rely hF
    u_op rm_rely hF
    u_op rm_rely hF
    u_op rm_rely hF
    u_op rm_rely hF
    u_c stepG_region_end rm_rely hF
    u_c stepG_seq rm_rely hF
    u_reg rm_rely hF
    u_op rm_rely hF
    u_op rm_rely hF
    u_op rm_rely hF
    u_op rm_rely hF
    u_c stepG_region_end rm_rely hF
    u_c stepG_seq rm_rely hF
    u_c stepG_seq rm_rely hF
    u_reg rm_rely hF
    u_op rm_rely hF
    u_op rm_rely hF
    u_op rm_rely hF
    u_op rm_rely hF
    u_op rm_rely hF
    u_op rm_rely hF
    u_op rm_rely hF
    u_op rm_rely hF
    u_op rm_rely hF
    u_op rm_rely hF
    u_c stepG_region_end rm_rely hF
    u_cnd false rm_rely hF
    u_c stepG_skip rm_rely hF
    u_c stepG_seq rm_rely hF
    u_c stepG_seq rm_rely hF
    u_reg rm_rely hF
    u_op rm_rely hF
    u_op rm_rely hF
    u_c stepG_region_end rm_rely hF
    u_cnd false rm_rely hF
    u_c stepG_skip rm_rely hF
    u_c stepG_seq rm_rely hF
    u_c stepG_seq rm_rely hF
    u_reg rm_rely hF
    u_op rm_rely hF
    u_op rm_rely hF
    u_op rm_rely hF
    u_skip rm_rely hF
    u_skip rm_rely hF
    u_op rm_rely hF
    u_op rm_rely hF
    u_skip rm_rely hF
    u_skip rm_rely hF
    u_skip rm_rely hF
    u_skip rm_rely hF
    u_op rm_rely hF
    u_c stepG_region_end rm_rely hF
    u_cnd false rm_rely hF
    u_c stepG_skip rm_rely hF
    u_c stepG_seq rm_rely hF
    u_c stepG_seq rm_rely hF
    u_reg rm_rely hF
    u_op rm_rely hF
    u_op rm_rely hF
    u_op rm_rely hF
    u_skip rm_rely hF
    u_skip rm_rely hF
    u_op rm_rely hF
    u_c stepG_region_end rm_rely hF
    u_cnd true rm_rely hF
    u_c stepG_ret' rm_rely hF
    refine Goes.stop (fun wq hq => ?_)
    replace hF := rm_rely hF hq
    clear hq
    refine ⟨rfl, _, stepG_unwind_entry (v := .tuple #[]) (evs := #[mk .enable]) rfl H.f_enable (x_enable_n L) (x_enable_b L) (x_enable_x L) (x_enable_f L) (by simp [Extern.Race.none_]) (by simp [mk]) (by simp [mk]), ?_⟩
    refine ⟨mT + 1, ?_⟩
    exact Goes.step rfl (fun wq hq => by
      refine goes_leave0 rfl rfl H.f_add rfl ⟨by u_nil, ?_⟩
      exact hT _ (rm_rely hF hq))
set_option maxRecDepth 100000 in
set_option maxHeartbeats 8000000 in
theorem waitRound (H : WgLib P L) {K : Goroutine → World → Prop} {mT : Nat}
    (hT : ∀ w, WgLive L.tWg Wg w → Goes P true (RM L.tWg Wg F) DC0 K mT (G (b₀.at (a₀.put ((ops₀[i₀]?).bind (·.dst)) (.tuple #[])) (.inRegion ops₀ rest₀ :: k₀)) cs) w)
    (g : Goroutine) (w : World) (h : Anch L Wg (b₀.at a₀ (.inRegion ops₀ (i₀ :: rest₀) :: k₀)) cs g w) :
    MG P L.tWg Wg F (AtLd P L.tWg Wg F (Anch L Wg (b₀.at a₀ (.inRegion ops₀ (i₀ :: rest₀) :: k₀)) cs) (MG P L.tWg Wg F K)) g w := by
  lib_facts
  obtain ⟨T, rfl, hT84, t0, hF⟩ := h
  obtain ⟨v0, v1, v2, v3, v4, v5, v6, v7, v8, v9, v10, v11, v12, v13, v14, v15, v16, v17, v18, v19, v20, v21, v22, v23, v24, v25, v26, v27, v28, v29, v30, v31, v32, v33, v34, v35, v36, v37, v38, v39, v40, v41, v42, v43, v44, v45, v46, v47, v48, v49, v50, v51, v52, v53, v54, v55, v56, v57, v58, v59, v60, v61, v62, v63, v64, v65, v66, v67, v68, v69, v70, v71, v72, v73, v74, v75, v76, v77, v78, v79, v80, v81, v82, v83, rfl⟩ := array84 T hT84
  simp only [List.getElem?_toArray, List.getElem?_cons_zero, Option.some.injEq] at t0
  subst t0
  refine ⟨30, ?_⟩
  simp only [L7, body_wait, waitFn, Option.getD_some]
  u_c stepG_block rm_rely hF
  u_c stepG_seq rm_rely hF
  u_reg rm_rely hF
  u_op rm_rely hF
  u_op rm_rely hF
  u_op rm_rely hF
  u_call H.f_uLoad (nm_uLoad L) uLoadFn rm_rely hF
  u_c stepG_seq rm_rely hF
  u_reg rm_rely hF
  u_op rm_rely hF
  u_c stepG_region_end rm_rely hF
  u_c stepG_seq rm_rely hF
  u_reg rm_rely hF
  u_op rm_rely hF
  u_op rm_rely hF
  u_op rm_rely hF
  refine Goes.stop (fun w1 h1 => ?_)
  replace hF := rm_rely hF h1
  clear h1
  refine ⟨rfl, fun v hv hw => ?_⟩
  rcases Nat.eq_zero_or_pos v with rfl | hvp
  · replace hw : WgAt L.tWg Wg w1 0 0 := by simpa using hw
    refine ⟨_, stepG_load_atomic (v := 0) rfl rfl (by k_ne) rfl H.f_loadU64 (x_loadU64_n L) (x_loadU64_b L) (x_loadU64_x L) .u64 (x_loadU64_f L) rfl hw.cellSt, fun _ => ⟨60, ?_⟩, fun h => absurd rfl h⟩
    clear hw
    walk_nrm
    u_op rm_rely hF
    u_c stepG_region_end rm_rely hF
    u_c stepG_ret' rm_rely hF
    u_leave1 H.f_uLoad rm_rely hF
    u_op rm_rely hF
    u_c stepG_region_end rm_rely hF
    u_c stepG_seq rm_rely hF
    u_reg rm_rely hF
    u_op rm_rely hF
    u_op rm_rely hF
    u_op rm_rely hF
    u_op rm_rely hF
    u_c stepG_region_end rm_rely hF
    u_c stepG_seq rm_rely hF
    u_reg rm_rely hF
    u_op rm_rely hF
    u_op rm_rely hF
    u_op rm_rely hF
    u_op rm_rely hF
    u_c stepG_region_end rm_rely hF
    u_c stepG_seq rm_rely hF
    u_c stepG_seq rm_rely hF
    u_reg rm_rely hF
    u_op rm_rely hF
    u_op rm_rely hF
    u_c stepG_region_end rm_rely hF
    u_cond true rm_rely hF
    u_c stepG_seq rm_rely hF
    u_cond true rm_rely hF
    u_c stepG_seq rm_rely hF
    u_reg rm_rely hF
    refine Goes.stop (fun w5 h5 => ?_)
    replace hF := rm_rely hF h5
    clear h5
    refine ⟨rfl, _, stepG_mark0 .enable (by simp) rfl rfl (by k_ne) rfl H.f_enable (x_enable_n L) (x_enable_b L) (x_enable_x L) (x_enable_f L), 12, ?_⟩
    walk_nrm
    u_c stepG_region_end rm_rely hF
    u_reg rm_rely hF
    u_op rm_rely hF
    u_conv H.underlying_tWgP H.room_tWg (WgLive.cell0 hF).choose_spec rm_rely hF
    refine Goes.stop (fun w6 h6 => ?_)
    replace hF := rm_rely hF h6
    clear h6
    refine ⟨rfl, _, stepG_markAt (.acquire) (by simp) rfl rfl (by k_ne) rfl H.f_acquire (x_acquire_n L) (x_acquire_b L) (x_acquire_x L) (x_acquire_f L) (by simp [Act.eval, stA]), ?_⟩
    refine ⟨mT + 1 + 19, ?_⟩
    walk_nrm
    u_c stepG_region_end rm_rely hF
    u_c stepG_seq rm_rely hF
    u_c stepG_seq rm_rely hF
    u_reg rm_rely hF
    u_op rm_rely hF
    u_op rm_rely hF
    u_op rm_rely hF
    u_op rm_rely hF
    u_op rm_rely hF
    u_op rm_rely hF
    u_op rm_rely hF
    u_op rm_rely hF
    u_skip rm_rely hF
    u_skip rm_rely hF
    u_op rm_rely hF
    u_c stepG_region_end rm_rely hF
    u_cond false rm_rely hF
    u_c stepG_skip rm_rely hF
    u_c stepG_ret' rm_rely hF
    exact Goes.step rfl (fun wq hq => by
      refine goes_leave0 rfl rfl H.f_wait rfl ⟨by u_nil, ?_⟩
      exact hT _ (rm_rely hF hq))
  · obtain ⟨S, hS⟩ : ∃ S : Int, (v : Int) * KK = S := ⟨_, rfl⟩
    have a1 : S / 4294967296 = (v : Int) := by rw [← hS]; simp only [KK]; omega
    have b1 : bits .and .u64 S 2147483648 = 0 := by rw [← hS]; have := st_flag v 0 (by omega) (by omega); simpa [KK] using this
    have b2 : bits .and .u64 S 2147483647 = 0 := by rw [← hS]; have := st_waiters v 0 (by omega) (by omega); simpa [KK] using this
    have c1 : IntKind.i32.wrap (v : Int) = (v : Int) := by rw [IntKind.wrap_i32]; omega
    have w1' : IntKind.u64.wrap (S + 1) = S + 1 := by rw [IntKind.wrap_u64, ← hS]; simp only [KK]; omega
    have q3 : decide ((v : Int) < 0) = false := decide_eq_false (by omega)
    have q4 : decide (0 < (v : Int)) = true := decide_eq_true (by omega)
    have q5 : ((v : Int) == 0) = false := by simp; omega
    have q6 : decide ((v : Int) = 0) = false := decide_eq_false (by omega)
    rw [hS] at hw
    refine ⟨_, stepG_load_atomic (v := S) rfl rfl (by k_ne) rfl H.f_loadU64 (x_loadU64_n L) (x_loadU64_b L) (x_loadU64_x L) .u64 (x_loadU64_f L) rfl hw.cellSt, fun h0 => absurd h0 (by omega), fun _ => ⟨60, ?_⟩⟩
    clear hw
    walk_nrm
    u_op rm_rely hF
    u_c stepG_region_end rm_rely hF
    u_c stepG_ret' rm_rely hF
    u_leave1 H.f_uLoad rm_rely hF
    u_op rm_rely hF
    u_c stepG_region_end rm_rely hF
    u_c stepG_seq rm_rely hF
    u_reg rm_rely hF
    u_op rm_rely hF
    u_op rm_rely hF
    u_op rm_rely hF
    u_op rm_rely hF
    u_c stepG_region_end rm_rely hF
    u_c stepG_seq rm_rely hF
    u_reg rm_rely hF
    u_op rm_rely hF
    u_op rm_rely hF
    u_op rm_rely hF
    u_op rm_rely hF
    u_c stepG_region_end rm_rely hF
    u_c stepG_seq rm_rely hF
    u_c stepG_seq rm_rely hF
    u_reg rm_rely hF
    u_op rm_rely hF
    u_op rm_rely hF
    u_c stepG_region_end rm_rely hF
    u_cnd false rm_rely hF
    u_c stepG_skip rm_rely hF
    u_c stepG_seq rm_rely hF
    u_reg rm_rely hF
    u_op rm_rely hF
    u_op rm_rely hF
    u_op rm_rely hF
    u_op rm_rely hF
    u_op rm_rely hF
    u_op rm_rely hF
    u_call H.f_uCas (nm_uCas L) uCasFn rm_rely hF
    u_c stepG_seq rm_rely hF
    u_reg rm_rely hF
    u_op rm_rely hF
    u_c stepG_region_end rm_rely hF
    u_c stepG_seq rm_rely hF
    u_reg rm_rely hF
    u_op rm_rely hF
    u_op rm_rely hF
    u_op rm_rely hF
    u_op rm_rely hF
    u_op rm_rely hF
    refine Goes.stop (fun w2 h2 => ?_)
    replace hF := rm_rely hF h2
    clear h2
    refine ⟨rfl, fun v' hv' hw => ⟨fun e => ?_, fun e => ?_⟩⟩
    · subst e
      rw [hS] at hw ⊢
      refine ⟨_, (stepG_cas_hit (v := S) (n := S + 1) rfl rfl (by k_ne) rfl H.f_casU64 (x_casU64_n L) (x_casU64_b L) (x_casU64_x L) .u64 (x_casU64_f L) rfl rfl rfl hw.cellSt (hw.thaw 0)).trans (by rfl), 40, ?_⟩
      replace hF : WgLive L.tWg Wg (w2.setCell (stA Wg) (.int .u64 (S + 1))) := ⟨_, _, hw.setSt _⟩
      clear hw
      walk_nrm
      u_op rm_rely hF
      u_c stepG_region_end rm_rely hF
      u_c stepG_ret' rm_rely hF
      u_leave1 H.f_uCas rm_rely hF
      u_c stepG_region_end rm_rely hF
      u_cond true rm_rely hF
      u_c stepG_seq rm_rely hF
      u_c stepG_seq rm_rely hF
      u_reg rm_rely hF
      u_op rm_rely hF
      u_op rm_rely hF
      u_op rm_rely hF
      u_op rm_rely hF
      u_c stepG_region_end rm_rely hF
      u_cond true rm_rely hF
      u_reg rm_rely hF
      u_op rm_rely hF
      u_op rm_rely hF
      u_op rm_rely hF
      u_conv H.underlying_tPU32 H.room_tU32 (WgLive.cell1 hF).choose_spec rm_rely hF
      refine Goes.stop (fun w3 h3 => ?_)
      replace hF := rm_rely hF h3
      clear h3
      refine ⟨rfl, _, stepG_markAt .write (by simp) rfl rfl (by k_ne) rfl H.f_raceWrite (x_raceWrite_n L) (x_raceWrite_b L) (x_raceWrite_x L) (x_raceWrite_f L) (ad := ⟨Wg, 1, none⟩) (by simp [Act.eval]), 40, ?_⟩
      walk_nrm
      u_c stepG_region_end rm_rely hF
      u_c stepG_seq rm_rely hF
      u_reg rm_rely hF
      u_op rm_rely hF
      u_c stepG_region_end rm_rely hF
      u_c stepG_seq rm_rely hF
      u_c stepG_seq rm_rely hF
      u_reg rm_rely hF
      u_op rm_rely hF
      u_op rm_rely hF
      u_op rm_rely hF
      u_op rm_rely hF
      u_skip rm_rely hF
      u_op rm_rely hF
      u_c stepG_region_end rm_rely hF
      u_cond false rm_rely hF
      u_c stepG_skip rm_rely hF
      u_c stepG_seq rm_rely hF
      u_reg rm_rely hF
      u_op rm_rely hF
      u_op rm_rely hF
      u_op rm_rely hF
      u_op rm_rely hF
      refine Goes.stop (fun w4 h4 => ?_)
      replace hF := rm_rely hF h4
      clear h4
      refine ⟨rfl, rfl, fun ⟨st, hw⟩ => stepG_semacquire_wait rfl rfl rfl H.f_semacquire (x_semacquire_n L) (x_semacquire_b L) (x_semacquire_x L) (x_semacquire_f L) (by simp [Act.eval, smA]) hw.cellSm, fun hf => ?_⟩
      refine ⟨_, (stepG_semacquire (n := 1) rfl rfl (by k_ne) rfl H.f_semacquire (x_semacquire_n L) (x_semacquire_b L) (x_semacquire_x L) (x_semacquire_f L) (by simp [Act.eval, smA]) hf.cellSm (by k_ne) (hf.thaw 1)).trans (by rfl), 40, ?_⟩
      replace hF : WgLive L.tWg Wg (w4.setCell (smA Wg) (.int .u32 0)) := ⟨_, _, hf.setSm 0⟩
      clear hf
      walk_nrm
      u_c stepG_region_end rm_rely hF
      u_c stepG_seq rm_rely hF
      u_reg rm_rely hF
      u_op rm_rely hF
      u_op rm_rely hF
      u_op rm_rely hF
      u_call H.f_uLoad (nm_uLoad L) uLoadFn rm_rely hF
      u_c stepG_seq rm_rely hF
      u_reg rm_rely hF
      u_op rm_rely hF
      u_c stepG_region_end rm_rely hF
      u_c stepG_seq rm_rely hF
      u_reg rm_rely hF
      u_op rm_rely hF
      u_op rm_rely hF
      u_op rm_rely hF
      refine Goes.stop (fun w7 h7 => ?_)
      replace hF := rm_rely hF h7
      clear h7
      refine ⟨rfl, fun hw => ⟨_, stepG_load_atomic (v := 0) rfl rfl (by k_ne) rfl H.f_loadU64 (x_loadU64_n L) (x_loadU64_b L) (x_loadU64_x L) .u64 (x_loadU64_f L) rfl hw.cellSt, 40, ?_⟩⟩
      clear hw
      walk_nrm
      u_op rm_rely hF
      u_c stepG_region_end rm_rely hF
      u_c stepG_ret' rm_rely hF
      u_leave1 H.f_uLoad rm_rely hF
      u_op rm_rely hF
      u_op rm_rely hF
      u_c stepG_region_end rm_rely hF
      u_c stepG_seq rm_rely hF
      u_cond true rm_rely hF
      u_c stepG_seq rm_rely hF
      u_reg rm_rely hF
      refine Goes.stop (fun w5 h5 => ?_)
      replace hF := rm_rely hF h5
      clear h5
      refine ⟨rfl, _, stepG_mark0 .enable (by simp) rfl rfl (by k_ne) rfl H.f_enable (x_enable_n L) (x_enable_b L) (x_enable_x L) (x_enable_f L), 12, ?_⟩
      walk_nrm
      u_c stepG_region_end rm_rely hF
      u_reg rm_rely hF
      u_op rm_rely hF
      u_conv H.underlying_tWgP H.room_tWg (WgLive.cell0 hF).choose_spec rm_rely hF
      refine Goes.stop (fun w6 h6 => ?_)
      replace hF := rm_rely hF h6
      clear h6
      refine ⟨rfl, _, stepG_markAt (.acquire) (by simp) rfl rfl (by k_ne) rfl H.f_acquire (x_acquire_n L) (x_acquire_b L) (x_acquire_x L) (x_acquire_f L) (by simp [Act.eval, stA]), ?_⟩
      refine ⟨mT + 1 + 9, ?_⟩
      walk_nrm
      u_c stepG_region_end rm_rely hF
      u_c stepG_seq rm_rely hF
      u_c stepG_seq rm_rely hF
      u_reg rm_rely hF
      u_op rm_rely hF
      u_c stepG_region_end rm_rely hF
      u_cond false rm_rely hF
      u_c stepG_skip rm_rely hF
      u_c stepG_ret' rm_rely hF
      exact Goes.step rfl (fun wq hq => by
        refine goes_leave0 rfl rfl H.f_wait rfl ⟨by u_nil, ?_⟩
        exact hT _ (rm_rely hF hq))
    · refine ⟨_, stepG_cas_miss (v := (v' : Int) * KK) (old := S) (n := S + 1) rfl rfl (by k_ne) rfl H.f_casU64 (x_casU64_n L) (x_casU64_b L) (x_casU64_x L) .u64 (x_casU64_f L) rfl rfl rfl hw.cellSt (hw.thaw 0) (by rw [← hS]; simp only [KK]; omega), 20, ?_⟩
      clear hw
      walk_nrm
      u_op rm_rely hF
      u_c stepG_region_end rm_rely hF
      u_c stepG_ret' rm_rely hF
      u_leave1 H.f_uCas rm_rely hF
      u_c stepG_region_end rm_rely hF
      u_cond false rm_rely hF
      u_c stepG_skip rm_rely hF
      u_c stepG_inBlock rm_rely hF
      u_c stepG_inLoop rm_rely hF
      refine Goes.stop (fun w3 h3 => ?_)
      replace hF := rm_rely hF h3
      exact ⟨_, rfl, by simp, by simp, hF⟩

set_option maxRecDepth 100000 in
theorem waitStart (H : WgLib P L) {c : Frame} (w : World) (hF : WgLive L.tWg Wg w) :
    MG P L.tWg Wg F (AtMk P .disable (MG P L.tWg Wg F (Anch L Wg c cs))) (G ((base L.wait).at ⟨#[.pointer (some ⟨Wg, 0, none⟩), undef, undef, undef, undef, undef, undef, undef, undef, undef, undef, undef, undef, undef, undef, undef, undef, undef, undef, undef, undef, undef, undef, undef, undef, undef, undef, undef, undef, undef, undef, undef, undef, undef, undef, undef, undef, undef, undef, undef, undef, undef, undef, undef, undef, undef, undef, undef, undef, undef, undef, undef, undef, undef, undef, undef, undef, undef, undef, undef, undef, undef, undef, undef, undef, undef, undef, undef, undef, undef, undef, undef, undef, undef, undef, undef, undef, undef, undef, undef, undef, undef, undef, undef], []⟩ [.code (body_wait L)]) (c :: cs)) w := by
  lib_facts
  simp only [body_wait, waitFn, Option.getD_some]
  refine ⟨6, ?_⟩
  u_c stepG_seq rm_rely hF
  u_cond true rm_rely hF
  u_reg rm_rely hF
  refine Goes.stop (fun w1 h1 => ?_)
  replace hF := rm_rely hF h1
  clear h1
  refine ⟨rfl, _, stepG_mark0 .disable (by simp) rfl rfl (by k_ne) rfl H.f_disable (x_disable_n L) (x_disable_b L) (x_disable_x L) (x_disable_f L), 6, ?_⟩
  walk_nrm
  u_c stepG_region_end rm_rely hF
  u_c stepG_block rm_rely hF
  u_c stepG_loop rm_rely hF
  exact Goes.stop (fun w2 h2 => ⟨_, rfl, by simp, by simp, rm_rely hF h2⟩)
end
end Go.Proofs.YtkpekiajdlolnaaGreat.Ph

/-
  THE PHASE, third text: the trace's law where the places of a worker grow: fresh places may be laid to anyone.
-/
namespace Go.Proofs.YtkpekiajdlolnaaGreat.Ph
open Go Go.Conc Go.ConcN Go.Proofs.YtkpekiajdlolnaaGreat.Sim

/-- nobody has touched the place. -/
def Fresh (t : Trace) (l : Loc) : Prop := ∀ i a, touchAt t i = some a → a.loc ≠ l
theorem Fresh.perm {t : Trace} {l : Loc} (h : Fresh t l) (g : Nat) : Perm t g l := fun i a ha e => (h i a ha e).elim
theorem Fresh.permW {t : Trace} {l : Loc} (h : Fresh t l) (g : Nat) : PermW t g l := fun i a ha e _ => (h i a ha e).elim

section
variable {Sh : Loc → Prop} {Own Rd Own' Rd' : Nat → Loc → Prop} {t : Trace} {j : Nat}
/-- THE FAMILIES GROW by fresh places. -/
theorem CT.grow (h : CT Sh Own Rd t j) (ho : ∀ k l, Own' k l → Own k l ∨ Fresh t l) (hr : ∀ k l, Rd' k l → Rd k l ∨ Fresh t l)
    (so : ∀ k l, Own k l → Own' k l) (sr : ∀ k l, Rd k l → Rd' k l) : CT Sh Own' Rd' t j :=
  ⟨h.quiet, fun k k1 kj l hl => (ho k l hl).elim (h.own k k1 kj l) (fun f => f.perm k), fun k k1 kj l hl => (hr k l hl).elim (h.rd k k1 kj l) (fun f => f.permW k),
    fun l hs hl => h.free l hs fun k k1 kj => ⟨fun x => (hl k k1 kj).1 (so k l x), fun x => (hl k k1 kj).2 (sr k l x)⟩, fun l hs hl => h.mine l hs fun k k1 kj x => hl k k1 kj (so k l x), h.nr, h.gs⟩
/-- one more group's cells are shared, nobody having touched them. -/
theorem CT.share {Sh' : Loc → Prop} (h : CT Sh Own Rd t j) (hs : ∀ l, Sh' l → Sh l ∨ Fresh t l) (ss : ∀ l, Sh l → Sh' l) : CT Sh' Own Rd t j :=
  ⟨fun i op x hi hx hsx => (hs x.loc hsx).elim (h.quiet i op x hi hx) (fun f => (f i x (by rw [touchAt_of hi]; exact hx) rfl).elim), h.own, h.rd, fun l hl => h.free l fun x => hl (ss l x), fun l hl => h.mine l fun x => hl (ss l x), h.nr, h.gs⟩
end

/-- A place in a block that the trace does not touch is fresh. -/
theorem fresh_cell {t : Trace} {B : Nat} (h : ∀ op ∈ t, LowT B op.act) {a : Addr} (ha : B ≤ a.block) : Fresh t (.cell a) := by
  intro i x hx e
  obtain ⟨op, hop, hox⟩ := touch_of hx
  have hl := h op (mem_of_getElem? hop) x hox
  rw [e] at hl
  exact Nat.lt_irrefl _ (Nat.lt_of_lt_of_le hl ha)

end Go.Proofs.YtkpekiajdlolnaaGreat.Ph

/-
  THE PHASE, fourth text: WHAT IS ASKED OF EACH GOROUTINE; THE INVARIANT.
-/
namespace Go.Proofs.YtkpekiajdlolnaaGreat.Ph
open Go Go.Conc Go.ConcN Go.Proofs.YtkpekiajdlolnaaGreat.Sim
open Go.ConcR (KK WgAt stA smA rd wr mk Payload DC0)

/-- the place lies in one of these blocks. -/
def locIn (B : Blocks) : Loc → Prop
  | .cell a => B a.block
  | .obj r => B r
  | _ => False
def none2 : Nat → Loc → Prop := fun _ _ => False

section
variable [Payload] (P : Program) (ty : TypeId) (Wg C n : Nat)

/-- the worker's own walk stops where the store into its cell is next; behind it: the deferred Done. -/
def AtStore (Res : Nat → Blocks → Value → World → Prop) (i : Nat) (F _O : Blocks) (g : Goroutine) (w : World) : Prop :=
  g.status = .running ∧ ∃ v, Res i F v w ∧ ∀ w1, Ext F w w1 → PayAt C n w1 → WgLive ty Wg w1 →
    ∃ g', stepG P false g w1 = .go g' (w1.setCell ⟨C, i, none⟩ v) #[⟨.cell ⟨C, i, none⟩, true, false⟩] ∧
      ∃ m, Goes P false (RW ty Wg C n 0 i) (DWs Wg none2 none2 C n (i + 1)) (AtR0 P ty Wg C n 0 (i + 1) v) m g' (w1.setCell ⟨C, i, none⟩ v)

/-- a worker's script, at its start: it writes nothing that is there; it reads blocks of F0. -/
def Script (Res : Nat → Blocks → Value → World → Prop) (i : Nat) (F0 : Blocks) (g : Goroutine) (w : World) : Prop :=
  ∃ F, (∀ b, F b → F0 b) ∧ WG P false (AtStore P ty Wg C n Res i) F (fun _ => False) g w

/-- the starter's go statement: number i is next; behind it 'Next'. -/
def AtGoM (Res : Nat → Blocks → Value → World → Prop) (i : Nat) (F : Blocks) (Next : Goroutine → World → Prop) (g : Goroutine) (w : World) : Prop :=
  g.status = .running ∧ ∃ g' child, stepG P true g w = .spawn g' child w #[] ∧ child.status = .running ∧ (PayAt C n w → Script P ty Wg C n Res i F child w) ∧ Next g' w
/-- the starter's script: r workers are still to be started (number n - r is next); behind the last: Wait, and K behind its 'acquire'. -/
def Scr (Res : Nat → Blocks → Value → World → Prop) (K : Goroutine → World → Prop) : Nat → Blocks → Blocks → Goroutine → World → Prop
  | 0, F, _, g, w => g.status = .running ∧ (WgLive ty Wg w → ∃ A : Goroutine → World → Prop, (∀ g w, A g w → g.status = .running) ∧ (∀ g w, A g w → MG P ty Wg F (AtLd P ty Wg F A K) g w) ∧ MG P ty Wg F (AtMk P .disable (MG P ty Wg F A)) g w)
  | r + 1, F, _, g, w => g.status = .running ∧ (WgLive ty Wg w → MG P ty Wg F (AtMk P .disable (MG P ty Wg F (AtAdd P ty Wg F (MG P ty Wg F (AtGoM P ty Wg C n Res (n - (r + 1)) F fun g' w => WG P true (Scr Res K r) F (fun _ => False) g' w))))) g w)
end

/-- where a worker is. stage 9: its own walk; 7 .. 1: the kit's 'WSit'. -/
structure WX where
  stage : Nat
  fuel : Nat
  deaf : Nat
  rank : Rank
  F : Blocks
  O : Blocks
  val : Value

section
variable [Payload] (P : Program) (ty : TypeId) (Wg C n : Nat) (Res : Nat → Blocks → Value → World → Prop)
inductive WS (i : Nat) (d : WX) (g : Goroutine) (w : World) : Prop
  | own : d.stage = 9 → d.deaf = 0 → d.fuel = 0 → WGo P false (AtStore P ty Wg C n Res i) d.rank d.F d.O g w → WS i d g w
  | lib : WSit P ty Wg C n none2 none2 0 (i + 1) d.val d.stage d.fuel d.deaf g w → Res i d.F d.val w → WS i d g w

inductive Tag where
  | wg (r : Nat) | kdS (r : Nat) | ad (r : Nat) | rs (r : Nat) | en (r : Nat) | gos (r : Nat)
  | kd | anch | ld | cs (vs : Nat) | ws | sm | blk | l2 | en2 | acq

/-- where the starter is: the tag; its fuel; how deaf it is; its rank; what it relies on. -/
inductive MS (K : Goroutine → World → Prop) : Tag → Nat → Nat → Rank → Blocks → Blocks → Goroutine → World → Prop
  | wg {r : Nat} {rk : Rank} {F O : Blocks} {g : Goroutine} {w : World} : r ≤ n → WGo P true (Scr P ty Wg C n Res K r) rk F O g w → MS K (.wg r) 0 0 rk F O g w
  | kdS {r f : Nat} {F : Blocks} {g : Goroutine} {w : World} : r < n → Goes P true (RM ty Wg F) DC0 (AtMk P .disable (MG P ty Wg F (AtAdd P ty Wg F (MG P ty Wg F (AtGoM P ty Wg C n Res (n - (r + 1)) F fun g' w => WG P true (Scr P ty Wg C n Res K r) F (fun _ => False) g' w))))) f g w → MS K (.kdS r) f 0 .leaf F (fun _ => False) g w
  | ad {r f : Nat} {F : Blocks} {g : Goroutine} {w : World} : r < n → Goes P true (RM ty Wg F) DC0 (AtAdd P ty Wg F (MG P ty Wg F (AtGoM P ty Wg C n Res (n - (r + 1)) F fun g' w => WG P true (Scr P ty Wg C n Res K r) F (fun _ => False) g' w))) f g w → MS K (.ad r) f 1 .leaf F (fun _ => False) g w
  | rs {r f : Nat} {F : Blocks} {g : Goroutine} {w : World} : r < n → Goes P true (RM ty Wg F) DC0 (AtMk P (.read (smA Wg)) (MG P ty Wg F (AtMk P .enable (MG P ty Wg F (AtGoM P ty Wg C n Res (n - (r + 1)) F fun g' w => WG P true (Scr P ty Wg C n Res K r) F (fun _ => False) g' w))))) f g w → MS K (.rs r) f 1 .leaf F (fun _ => False) g w
  | en {r f : Nat} {F : Blocks} {g : Goroutine} {w : World} : r < n → Goes P true (RM ty Wg F) DC0 (AtMk P .enable (MG P ty Wg F (AtGoM P ty Wg C n Res (n - (r + 1)) F fun g' w => WG P true (Scr P ty Wg C n Res K r) F (fun _ => False) g' w))) f g w → MS K (.en r) f 1 .leaf F (fun _ => False) g w
  | gos {r f : Nat} {F : Blocks} {g : Goroutine} {w : World} : r < n → Goes P true (RM ty Wg F) DC0 (AtGoM P ty Wg C n Res (n - (r + 1)) F fun g' w => WG P true (Scr P ty Wg C n Res K r) F (fun _ => False) g' w) f g w → MS K (.gos r) f 0 .leaf F (fun _ => False) g w
  | kd {f : Nat} {F : Blocks} {A : Goroutine → World → Prop} {g : Goroutine} {w : World} : (∀ g w, A g w → g.status = .running) → (∀ g w, A g w → MG P ty Wg F (AtLd P ty Wg F A K) g w) → Goes P true (RM ty Wg F) DC0 (AtMk P .disable (MG P ty Wg F A)) f g w → MS K .kd f 0 .leaf F (fun _ => False) g w
  | anch {f : Nat} {F : Blocks} {A : Goroutine → World → Prop} {g : Goroutine} {w : World} : (∀ g w, A g w → g.status = .running) → (∀ g w, A g w → MG P ty Wg F (AtLd P ty Wg F A K) g w) → Goes P true (RM ty Wg F) DC0 A f g w → MS K .anch f 1 .leaf F (fun _ => False) g w
  | ld {f : Nat} {F : Blocks} {A : Goroutine → World → Prop} {g : Goroutine} {w : World} : (∀ g w, A g w → g.status = .running) → (∀ g w, A g w → MG P ty Wg F (AtLd P ty Wg F A K) g w) → Goes P true (RM ty Wg F) DC0 (AtLd P ty Wg F A K) f g w → MS K .ld f 1 .leaf F (fun _ => False) g w
  | cs {vs f : Nat} {F : Blocks} {A : Goroutine → World → Prop} {g : Goroutine} {w : World} : (∀ g w, A g w → g.status = .running) → (∀ g w, A g w → MG P ty Wg F (AtLd P ty Wg F A K) g w) → Goes P true (RM ty Wg F) DC0 (AtCas P ty Wg F A K vs) f g w → MS K (.cs vs) f 1 .leaf F (fun _ => False) g w
  | ws {f : Nat} {F : Blocks} {g : Goroutine} {w : World} : Goes P true (RM ty Wg F) DC0 (AtMk P (.write (smA Wg)) (MG P ty Wg F (AtSem P ty Wg F K))) f g w → MS K .ws f 1 .leaf F (fun _ => False) g w
  | sm {f : Nat} {F : Blocks} {g : Goroutine} {w : World} : Goes P true (RM ty Wg F) DC0 (AtSem P ty Wg F K) f g w → MS K .sm (f + 1) 1 .leaf F (fun _ => False) g w
  | blk {F : Blocks} {g : Goroutine} {w : World} : (∀ w1, RM ty Wg F w w1 → AtSem P ty Wg F K g w1) → MS K .blk 0 1 .leaf F (fun _ => False) { g with status := .blocked } w
  | l2 {f : Nat} {F : Blocks} {g : Goroutine} {w : World} : Goes P true (RM ty Wg F) DC0 (AtLd2 P ty Wg F K) f g w → MS K .l2 f 1 .leaf F (fun _ => False) g w
  | en2 {f : Nat} {F : Blocks} {g : Goroutine} {w : World} : Goes P true (RM ty Wg F) DC0 (AtMk P .enable (MG P ty Wg F (AtMk P (.acquire (stA Wg)) K))) f g w → MS K .en2 f 1 .leaf F (fun _ => False) g w
  | acq {f : Nat} {F : Blocks} {g : Goroutine} {w : World} : Goes P true (RM ty Wg F) DC0 (AtMk P (.acquire (stA Wg)) K) f g w → MS K .acq f 0 .leaf F (fun _ => False) g w
end

end Go.Proofs.YtkpekiajdlolnaaGreat.Ph

/-
  THE PHASE, fifth text: how the others' doing leaves a goroutine's situation; the group's state.
-/
namespace Go.Proofs.YtkpekiajdlolnaaGreat.Ph
open Go Go.Conc Go.ConcN Go.Proofs.YtkpekiajdlolnaaGreat.Sim
open Go.ConcR (KK WgAt stA smA rd wr mk Payload DC0)
variable [Payload]

section
variable {P : Program} {ty : TypeId} {Wg C n : Nat} {Res : Nat → Blocks → Value → World → Prop} {K : Goroutine → World → Prop} {tag : Tag} {f d : Nat} {rk : Rank} {F O : Blocks} {a : Goroutine} {w w1 : World}
omit [Payload] in
theorem rm_refl (w : World) : RM ty Wg F w w := ⟨Ext.refl .., id⟩
theorem MS.rely (h : MS P ty Wg C n Res K tag f d rk F O a w) (r : RM ty Wg F w w1) : MS P ty Wg C n Res K tag f d rk F O a w1 := by
  cases h with
  | wg h0 h => exact .wg h0 (h.ext r.ext)
  | kdS h0 h => exact .kdS h0 (h.rely rm_trans r)
  | ad h0 h => exact .ad h0 (h.rely rm_trans r)
  | rs h0 h => exact .rs h0 (h.rely rm_trans r)
  | en h0 h => exact .en h0 (h.rely rm_trans r)
  | gos h0 h => exact .gos h0 (h.rely rm_trans r)
  | kd h0 h1 h => exact .kd h0 h1 (h.rely rm_trans r)
  | anch h0 h1 h => exact .anch h0 h1 (h.rely rm_trans r)
  | ld h0 h1 h => exact .ld h0 h1 (h.rely rm_trans r)
  | cs h0 h1 h => exact .cs h0 h1 (h.rely rm_trans r)
  | ws h => exact .ws (h.rely rm_trans r)
  | sm h => exact .sm (h.rely rm_trans r)
  | blk h => exact .blk fun w2 r2 => h w2 (rm_trans _ _ _ r r2)
  | l2 h => exact .l2 (h.rely rm_trans r)
  | en2 h => exact .en2 (h.rely rm_trans r)
  | acq h => exact .acq (h.rely rm_trans r)

omit [Payload] in
theorem mg_run {Stop : Goroutine → World → Prop} (hs : ∀ g w, Stop g w → g.status = .running) {n : Nat} {g : Goroutine} {w : World} (h : Goes P true (RM ty Wg F) DC0 Stop n g w) : g.status = .running :=
  h.running hs w (rm_refl w)
theorem scr_run : ∀ (r : Nat) (F O : Blocks) (g : Goroutine) (w : World), Scr P ty Wg C n Res K r F O g w → g.status = .running := by
  intro r F O g w h
  cases r with
  | zero => exact h.1
  | succ r => exact h.1
omit [Payload] in
theorem wgo_run {main : Bool} {Stop : Blocks → Blocks → Goroutine → World → Prop} (hs : ∀ F O g w, Stop F O g w → g.status = .running) {r : Rank} {g : Goroutine} (h : WGo P main Stop r F O g w) : g.status = .running := by
  cases r with
  | leaf => exact hs _ _ _ _ (h w (Ext.refl ..))
  | node f => exact h.1
theorem MS.status (h : MS P ty Wg C n Res K tag f d rk F O a w) : (a.status = .running ∧ tag ≠ .blk) ∨ (a.status = .blocked ∧ tag = .blk) := by
  cases h with
  | wg h0 h => exact .inl ⟨wgo_run (fun F O g w x => scr_run _ F O g w x) h, by simp⟩
  | kdS h0 h => exact .inl ⟨mg_run (fun _ _ x => x.1) h, by simp⟩
  | ad h0 h => exact .inl ⟨mg_run (fun _ _ x => x.1) h, by simp⟩
  | rs h0 h => exact .inl ⟨mg_run (fun _ _ x => x.1) h, by simp⟩
  | en h0 h => exact .inl ⟨mg_run (fun _ _ x => x.1) h, by simp⟩
  | gos h0 h => exact .inl ⟨mg_run (fun _ _ x => x.1) h, by simp⟩
  | kd h0 h1 h => exact .inl ⟨mg_run (fun _ _ x => x.1) h, by simp⟩
  | anch h0 h1 h => exact .inl ⟨mg_run h0 h, by simp⟩
  | ld h0 h1 h => exact .inl ⟨mg_run (fun _ _ x => x.1) h, by simp⟩
  | cs h0 h1 h => exact .inl ⟨mg_run (fun _ _ x => x.1) h, by simp⟩
  | ws h => exact .inl ⟨mg_run (fun _ _ x => x.1) h, by simp⟩
  | sm h => exact .inl ⟨mg_run (fun _ _ x => x.1) h, by simp⟩
  | blk h => exact .inr ⟨rfl, rfl⟩
  | l2 h => exact .inl ⟨mg_run (fun _ _ x => x.1) h, by simp⟩
  | en2 h => exact .inl ⟨mg_run (fun _ _ x => x.1) h, by simp⟩
  | acq h => exact .inl ⟨mg_run (fun _ _ x => x.1) h, by simp⟩

/-- another goroutine's step, which may wake it. -/
theorem MS.wokenBy (h : MS P ty Wg C n Res K tag f d rk F O a w) (r : RM ty Wg F w w1) (g g' : Goroutine) :
    ∃ tag' f', MS P ty Wg C n Res K tag' f' d rk F O (woken P g g' w1 a) w1 ∧ f' ≤ f + 1 ∧ (tag' = tag ∨ (tag = .blk ∧ tag' = .sm)) ∧ (mayWake P g = true → g'.status = .running → tag' ≠ .blk) := by
  have h' := h.rely r
  unfold Go.Conc.woken
  split
  · rcases h'.status with ⟨hs, hne⟩ | ⟨_, rfl⟩
    · exact ⟨tag, f, by rw [again_running _ (.inl hs)]; exact h', by omega, .inl rfl, fun _ _ => hne⟩
    · cases h' with
      | blk hb =>
        have h3 := hb w1 (rm_refl w1)
        exact ⟨.sm, 0 + 1, by rw [Go.ConcR.again_blocked h3.1 h3.2.1]; exact .sm (Goes.stop hb), by omega, .inr ⟨rfl, rfl⟩, fun _ _ => by simp⟩
  · rename_i hc
    exact ⟨tag, f, h', by omega, .inl rfl, fun h1 h2 => absurd (by simp [h1, h2]) hc⟩
end

/-! ### the group's state -/
def xd (D : Nat → WX) : Nat → WD := fun i => ⟨if (D i).stage = 9 then 7 else (D i).stage, (D i).fuel, (D i).deaf⟩
def pendT : Tag → Nat
  | .rs _ | .en _ | .gos _ => 1
  | _ => 0
def isOpenT : Tag → Prop
  | .wg _ | .kdS _ | .ad _ | .rs _ | .en _ | .gos _ | .kd | .anch | .ld | .cs _ => True
  | _ => False
def isW3T : Tag → Prop
  | .ws | .sm | .blk => True
  | _ => False
def isFinT : Tag → Prop
  | .l2 | .en2 | .acq => True
  | _ => False
inductive Mo (j : Nat) (D : Nat → WD) : Tag → Int → Int → Prop
  | opn {tag : Tag} : isOpenT tag → OpenSt j D → (∀ vs, tag = .cs vs → Vc j D ≤ vs ∧ 1 ≤ vs) → Mo j D tag (((Vc j D + pendT tag : Nat) : Int) * KK) 0
  | reg {tag : Tag} : isW3T tag → OpenSt j D → 1 ≤ Vc j D → Mo j D tag (((Vc j D : Nat) : Int) * KK + 1) 0
  | last {tag : Tag} (L : Nat) : isW3T tag → L < j → ((D L).stage = 4 ∨ (D L).stage = 3 ∨ (D L).stage = 2) → (∀ i, i < j → i ≠ L → (D i).stage = 1) → Mo j D tag (if (D L).stage = 2 then 0 else 1) 0
  | sema {tag : Tag} : (tag = .ws ∨ tag = .sm) → AllQuit j D → Mo j D tag 0 1
  | fin {tag : Tag} : isFinT tag → AllQuit j D → Mo j D tag 0 0
/-- how far the starter is, v workers being counted. -/
def psi (n v : Nat) : Tag → Nat
  | .wg r => 8 * n + 20 + 32 * r
  | .kdS r => 8 * n + 20 + 32 * r + 24
  | .ad r => 8 * n + 20 + 32 * r + 23
  | .rs r => 8 * n + 20 + 32 * r + 22
  | .en r => 8 * n + 20 + 32 * r + 21
  | .gos r => 8 * n + 20 + 32 * r + 20
  | .kd => 8 * n + 12
  | .anch => 8 * v + 8
  | .ld => 8 * v + 7
  | .cs vs => 8 * vs + 6
  | .ws => 5
  | .sm => 4
  | .blk => 4
  | .l2 => 3
  | .en2 => 2
  | .acq => 1

end Go.Proofs.YtkpekiajdlolnaaGreat.Ph
