/-
 PROVED IN PARTS: text 2 of 8 of the carrying ground of the claim (see each part's own remark). Conditions: those that each theorem names.
-/
import Derived.Test.YtkpekiajdlolnabGreatM01
import Derived.Conc.Beside
import Derived.Conc.CrowdTrace
import Derived.Conc.WgGenN3
import Derived.Conc.CrowdStepW
import Derived.Conc.CrowdStepC2
set_option linter.unusedVariables false
set_option linter.unusedSimpArgs false
set_option maxRecDepth 100000
set_option maxHeartbeats 4000000
namespace Go.Proofs.YtkpekiajdlolnabGreat.Sim
open Go Go.Conc
def qb5 (f : World → GStep) (w : World) : Prop := ∀ g1 w1 es, f w = .go g1 w1 es → w.drawn ≤ w1.drawn ∧ w1.tape = w.tape ∧ ∀ τ, (∀ i q, i < w1.drawn → τ i q = w.tape i q) → f (re w τ) = .go g1 (re w1 τ) es
theorem qb5.go {g : Goroutine} {es : Array Event} {w : World} : qb5 (fun w => .go g w es) w := by
 intro g1 w1 es h
 cases h
 exact ⟨jy _, rfl, fun τ _ => rfl⟩
theorem qb5.ended {f : World → GStep} {w : World} {o : Outcome} {w2 : World} {es : Array Event} (h : f w = .ended o w2 es) : qb5 f w := fun g1 w1 es e => by rw [h] at e; cases e
section
variable {X : Cx} {Fb : FuncId → Bool} {wr : Bool} {sp : FuncId → Bool} {ρ : Rel}
theorem SS.loc {α β : Type} {s : Sem α} {s' : Sem β} {Q : Rel → α → β → Prop} (h : SS X ρ s s' Q) {w w' : World} (hw : WR X ρ w w') {r : Result α} {es : Array Event} (hr : s.runT X.P w #[] = (r, es)) :
  w.drawn ≤ (rw0 r).drawn ∧ (rw0 r).tape = w.tape ∧ ∀ τ, (∀ i q, i < (rw0 r).drawn → τ i q = w.tape i q) → s.runT X.P (re w τ) #[] = (rre τ r, es) := by
 have := qup X.P s w #[] (fun e he => (h.3 w w' hw #[] e he).resolve_left (by simp))
 rw [hr] at this
 exact this
theorem qhs {cs : List Frame} {fr : Frame} {w w' : World} (hw : WR X ρ w w') (hm : fr.mode = .run) (hk : fr.kind = .normal)
  {s s' : Sem Next} (hs : SS X ρ s s' (fun ρ1 n n' => NR X ρ1 n n')) : qb5 (fun w => stepG.apply X.P true fr cs none s w) w := by
 have e1 : (fr.kind == CallKind.early) = false := by rw [hk]; rfl
 have raised : ∀ vs, fr.raise vs = { fr with mode := .panicking vs } := fun vs => by unfold Frame.raise; rw [hm]
 intro g1 w1 es hgo
 rcases hr : s.runT X.P w #[] with ⟨r, es0⟩
 obtain ⟨d1, d2, d3⟩ := hs.loc hw hr
 unfold stepG.apply at hgo ⊢
 simp only [if_true] at hgo ⊢
 rw [hr] at hgo
 cases r with
 |halt h wx =>
  have hr' : s.run X.P w = .halt h wx := by rw [← Sem.runT_fst X.P s w #[], hr]
  obtain ⟨qcw, -⟩ := hs.2 w w' h wx hw hr'
  cases h with
  |panic v =>
   simp only [GStep.after] at hgo
   cases hgo
   refine ⟨d1, d2, fun τ hτ => ?_⟩
   rw [d3 τ hτ]
   rfl
  |unsupported u =>
   cases u with
   |initOrder b => exact qcw.elim
   |_ => simp only [GStep.after] at hgo; cases hgo
  |stuck m => simp only [GStep.after] at hgo; cases hgo
  |_ => exact qcw.elim
 |ok n wx =>
  have hr' : s.run X.P w = .ok n wx := by rw [← Sem.runT_fst X.P s w #[], hr]
  obtain ⟨ρ1, n', w1', es1, h1, h2, h3, h4, h5, h6, h7⟩ := hs.1 w w' n wx #[] hw hr'
  cases h6 <;>
  ·simp only [GStep.after] at hgo
   cases hgo
   refine ⟨d1, d2, fun τ hτ => ?_⟩
   rw [d3 τ hτ]
   rfl
theorem qhz {cs : List Frame} {fr fr' : Frame} {w w' : World} (hw : WR X ρ w w') (hr0 : qfx ρ fr.roundOf fr'.roundOf) (hk : fr.kind = .normal) (jump : Option Code) (hj : ∀ c, jump = some c → X.C c) (m : Bool) (hne : fr.roundOf.isSome → cs ≠ []) :
  qb5 (fun w => qbz X.P m fr cs jump w) w := by
 rcases hr0 with ⟨e1, e2⟩ | ⟨l, l', e1, e2, hl⟩
 ·unfold qbz
  rw [e1]
  dsimp only
  cases jump with
  |none => exact qb5.go
  |some c => cases c <;> first | exact qb5.go | exact qb5.ended rfl
 ·intro g1 w1 es hgo
  unfold qbz at hgo ⊢
  rw [e1] at hgo ⊢
  dsimp only at hgo ⊢
  rcases hr : (Instr.endRound l jump).runT X.P w #[] with ⟨r, es0⟩
  obtain ⟨d1, d2, d3⟩ := (SS.endRound hl jump hj).loc hw hr
  rw [hr] at hgo
  cases r with
  |halt h wx => cases hgo
  |ok v wx =>
   cases cs with
   |nil => exact absurd rfl (hne (by rw [e1]; rfl))
   |cons c cs =>
    unfold doReturn at hgo
    simp only [hk, GStep.after] at hgo
    cases hgo
    refine ⟨d1, d2, fun τ hτ => ?_⟩
    rw [d3 τ hτ]
    simp only [rre, doReturn, hk, GStep.after]
theorem qfj {es0 : Array Event} {s : GStep} {g1 : Goroutine} {w1 : World} {es : Array Event} (h : GStep.after es0 s = .go g1 w1 es) : ∃ es2, s = .go g1 w1 es2 ∧ GStep.go g1 w1 es = GStep.after es0 (.go g1 w1 es2) := by
 cases s <;> first | (cases h; exact ⟨_, rfl, rfl⟩) | cases h
theorem qws (S : X.Set Fb wr sp) {cs : List Frame} {fr fr' : Frame} {w w' : World} (hf : FR X Fb wr ρ fr fr') (hw : WR X ρ w w') (hm : fr.mode = .run) (m : Bool) (hne : fr.roundOf.isSome → cs ≠ []) :
  qb5 (fun w => stepG.exec X.P m true fr cs none w) w := by
 obtain ⟨fn, tmps, todo, defers, mode, kind, ro⟩ := fr
 obtain ⟨fn', qal, todo', defers', qcj, kind', ro'⟩ := fr'
 have ht : IsR X Fb wr ρ todo todo' := hf.todo
 obtain rfl : fn' = fn := hf.fn
 have hk : kind = .normal := hf.kind
 have hco : ∀ c, codeOk X.P X.P' Fb wr c = true → X.C c := fun c h => (S.c c).2 h
 unfold stepG.exec
 cases ht with
 |nil => exact qhz hw hf.round hk none (fun c e => by cases e) m hne
 | @cons i i' l l' a b =>
  cases a with
  |inBlock id => exact qb5.go
  |inLoop c => exact qb5.go
  |inRangeFunc r => exact qb5.ended rfl
  |beginRound =>
   refine qhs (fr := ⟨fn', tmps, _, defers, mode, kind, ro⟩) (s' := do (ro'.elim (Go.stuck "beginRound: no round") Instr.beginRound : Sem Unit); Pure.pure .skip) hw hm hk ?_
   have hr0 : qfx ρ ro ro' := hf.round
   rcases hr0 with ⟨rfl, rfl⟩ | ⟨l, l', rfl, rfl, hl⟩
   ·exact SS.dies (q9.ku (q9.stuck _))
   ·exact (SS.beginRound hl).bind fun _ _ _ _ _ => SS.pure .skip
  | @endRangeFunc l l' r =>
   intro g1 w1 es hgo
   dsimp only at hgo ⊢
   rcases hr : (Instr.endLoop l).runT X.P w #[] with ⟨r0, es0⟩
   obtain ⟨d1, d2, d3⟩ := (SS.endLoop r).loc hw hr
   rw [hr] at hgo
   cases r0 with
   |halt h wx =>
    cases h with
    |panic v =>
     cases hgo
     refine ⟨d1, d2, fun τ hτ => ?_⟩
     rw [d3 τ hτ]
     rfl
    |_ => cases hgo
   |ok j wx =>
    cases hgo
    refine ⟨d1, d2, fun τ hτ => ?_⟩
    rw [d3 τ hτ]
    rfl
  | @inRegion ops td c =>
   cases td with
   |nil => exact qb5.go
   |cons i td =>
    dsimp only
    by_cases hwant : ((ops[i]?).map (Region.wanted · (yielded ops tmps))).getD false = true
    ·simp only [if_pos hwant]
     cases ho : ops[i]? with
     |none => rw [ho] at hwant; cases hwant
     |some o =>
      have hok := qec c ho
      have nd : ∀ c, o.op ≠ .defer c := fun c e => by
       unfold qa0 at hok
       rw [e] at hok
       simp at hok
      have op1 : (⟨fn', tmps, .inRegion ops (i :: td) :: l, defers, mode, kind, ro⟩ : Frame).oper? = some o := ho
      have e : (fun w => stepG.oper X.P true (⟨fn', tmps, .inRegion ops (i :: td) :: l, defers, mode, kind, ro⟩ : Frame) cs none w) =
        fun w => stepG.apply X.P true (⟨fn', tmps, .inRegion ops (i :: td) :: l, defers, mode, kind, ro⟩ : Frame) cs none (execOp (Frame.eval (⟨fn', tmps, .inRegion ops (i :: td) :: l, defers, mode, kind, ro⟩ : Frame)) o) w := by
       funext w
       unfold stepG.oper
       rw [op1]
       dsimp only
       split
       ·rename_i e; exact absurd e (nd _)
       ·rfl
      rw [e]
      exact qhs hw hm hk (SS.execOp S.ok wr S.wrs o hok _ _ (hf.eval S))
    ·simp only [if_neg hwant]
     exact qb5.go
  | @code c hc =>
   cases c with
   |skip => exact qb5.go
   |ret => exact qhz (fr := ⟨fn', tmps, _, defers, mode, kind, ro⟩) hw hf.round hk (some .ret) (fun c e => by cases e; exact hco _ rfl) m hne
   |seq x y => exact qb5.go
   |cond x y z =>
    dsimp only
    generalize Frame.eval _ x = v
    cases v <;> first | exact qb5.go | exact qb5.ended rfl
   |block id c => exact qb5.go
   |loop c => exact qb5.go
   |exit id =>
    dsimp only
    cases exitTo id l with
    |none => exact qhz (fr := ⟨fn', tmps, _, defers, mode, kind, ro⟩) hw hf.round hk (some (.exit id)) (fun c e => by cases e; exact hco _ rfl) m hne
    |some k => exact qb5.go
   |region id ops draw =>
    cases draw with
    |false => exact qb5.go
    |true =>
     intro g1 w1 es hgo
     dsimp only at hgo ⊢
     simp only [Bool.not_true, Bool.false_eq_true, if_false] at hgo ⊢
     have := (SS.choose (X := X) (ρ := ρ) (.order fn' id))
     rcases hr : (choose (.order fn' id)).runT X.P w #[] with ⟨r0, es0⟩
     obtain ⟨d1, d2, d3⟩ := this.loc hw hr
     have hr' : (choose (.order fn' id)).run X.P w = r0 := by rw [← Sem.runT_fst X.P _ w #[], hr]
     rw [hr'] at hgo
     cases r0 with
     |halt h wx => cases hgo
     |ok t wx =>
      cases hgo
      refine ⟨d1, d2, fun τ hτ => ?_⟩
      have : (choose (.order fn' id)).run X.P (re w τ) = .ok t (re w1 τ) := by rw [← Sem.runT_fst X.P _ _ #[], d3 τ hτ]; rfl
      rw [this]
   |rangeFunc f params assign body =>
    simp only [codeOk, Bool.and_eq_true] at hc
    obtain ⟨hc1, hc2, hc3⟩ := hc
    have hG : X.G fn' := hf.same
    intro g1 w1 es hgo
    dsimp only at hgo ⊢
    rcases hr : (Instr.enterLoop fn' tmps params assign body ro).runT X.P w #[] with ⟨r0, es0⟩
    have hen := SS.enterLoop hG hf.tmps params (hco _ hc2) (hco _ hc3) hf.round
    obtain ⟨d1, d2, d3⟩ := hen.loc hw hr
    rw [hr] at hgo
    cases r0 with
    |halt h wx => cases hgo
    |ok p wx =>
     obtain ⟨l1, mark⟩ := p
     obtain ⟨ρ1, p', w1', es1, h1, h2, h3, h4, h5, ⟨h6, h6'⟩, h7⟩ := qci hen hw hr
     obtain ⟨l1', mark'⟩ := p'
     dsimp only at h6 h6' hgo
     have hf1 := hf.mono h3.le
     have hf2 : FR X Fb wr ρ1 ⟨fn', tmps, .inRangeFunc l1 :: l, mark ++ defers, mode, kind, ro⟩ ⟨fn', qal, .inRangeFunc l1' :: l', mark' ++ defers', qcj, kind', ro'⟩ :=
      ⟨hf1.fn, hf1.same, hf1.tmps, .cons (.inRangeFunc h6) (b.mono h3.le), h6'.append hf1.defers, hf1.mode, hf1.run, hf1.kind, hf1.kind', hf1.round⟩
     have ap := qhs (cs := cs) (fr := ⟨fn', tmps, .inRangeFunc l1 :: l, mark ++ defers, mode, kind, ro⟩) h2 hm hk (SS.iterate S.ok (fun _ => rfl) (fun _ => rfl) ((hf2.eval S).1 f hc1) h6)
     obtain ⟨es2, k1, k2⟩ := qfj hgo
     obtain ⟨q1, q2, q3⟩ := ap g1 w1 es2 k1
     refine ⟨xlt d1 q1, q2.trans d2, fun τ hτ => ?_⟩
     have d3 := d3 τ (fun i q hi => hτ i q (xll hi q1))
     have q3 := q3 τ (fun i q hi => (hτ i q hi).trans (by rw [show wx.tape = w.tape from d2]))
     rw [d3]
     dsimp only [rre]
     have k3 : es = seen X.P fn' es0 ++ es2 := by cases k2; rfl
     rw [k3]
     exact congrArg (GStep.after _) q3
   |_ => simp [codeOk] at hc
theorem qrq (S : X.Set Fb wr sp) {cs : List Frame} {fr fr' : Frame} {w w' : World} (hf : FR X Fb wr ρ fr fr') (hw : WR X ρ w w') (hm : fr.mode = .returning) (m : Bool) (hne : fr.defers ≠ [] ∨ cs ≠ []) :
  qb5 (fun w => unwind X.P m fr cs none w) w := by
 obtain ⟨fn, tmps, todo, defers, mode, kind, ro⟩ := fr
 obtain ⟨fn', qal, todo', defers', qcj, kind', ro'⟩ := fr'
 obtain rfl : fn' = fn := hf.fn
 obtain rfl : mode = .returning := hm
 obtain rfl : kind = .normal := hf.kind
 have hd : DsR ρ defers defers' := hf.defers
 intro g1 w1 es hgo
 cases hd with
 | @cons r r' l l' a b =>
  unfold unwind at hgo ⊢
  dsimp only at hgo ⊢
  rcases hr : (Instr.takeDeferred r).runT X.P w #[] with ⟨r0, es0⟩
  obtain ⟨d1, d2, d3⟩ := (SS.takeDeferred a).loc hw hr
  rw [hr] at hgo
  cases r0 with
  |halt h wx => cases hgo
  |ok v wx =>
   cases hgo
   refine ⟨d1, d2, fun τ hτ => ?_⟩
   rw [d3 τ hτ]
   rfl
 |nil =>
  have hne : cs ≠ [] := hne.resolve_left (fun h => h rfl)
  obtain ⟨f, q1, q2⟩ := hf.same
  have q1 : X.P.funcs[fn']? = some f := q1
  unfold unwind at hgo ⊢
  dsimp only at hgo ⊢
  rw [q1] at hgo ⊢
  dsimp only at hgo ⊢
  rcases hr : (results f tmps).runT X.P w #[] with ⟨r0, es0⟩
  obtain ⟨d1, d2, d3⟩ := (SS.results S.ok hf.tmps).loc hw hr
  rw [hr] at hgo
  cases r0 with
  |halt h wx => cases h <;> cases hgo
  |ok v wx =>
   cases cs with
   |nil => exact absurd rfl hne
   |cons c cs =>
    cases hgo
    refine ⟨d1, d2, fun τ hτ => ?_⟩
    rw [d3 τ hτ]
    rfl
theorem qzk (S : X.Set Fb wr sp) {cs : List Frame} {fr fr' : Frame} {w w' : World} (hf : FR X Fb wr ρ fr fr') (hw : WR X ρ w w') (m : Bool) (hne : cs ≠ []) :
  qb5 (fun w => stepG X.P m (G fr cs) w) w := by
 rcases hf.run with hm | hm
 ·have e : (fun w => stepG X.P m (G fr cs) w) = fun w => stepG.exec X.P m true fr cs none w := funext fun w => vv _ _ _ _ _ hm
  rw [e]
  exact qws S hf hw hm m (fun _ => hne)
 ·have e : (fun w => stepG X.P m (G fr cs) w) = fun w => unwind X.P m fr cs none w := funext fun w => zm _ _ _ _ _ hm
  rw [e]
  exact qrq S hf hw hm m (.inr hne)
end
inductive qjh (P : Program) (Q : Frame → List Frame → World → Prop) : Frame → List Frame → World → Prop
 |done {fr : Frame} {cs : List Frame} {w : World} : Q fr cs w → qjh P Q fr cs w
 |step {fr : Frame} {cs : List Frame} {w : World} {jv : Frame} {cs1 : List Frame} {w1 : World} {es : Array Event} : stepG P true (G fr cs) w = .go (G jv cs1) w1 es → qjh P Q jv cs1 w1 → qjh P Q fr cs w
def qcm (fr : Frame) (cs : List Frame) (w : World) : Prop := (∃ ch, fr.mode = .panicking ch) ∧ ((∃ up, cs = up ++ [c0] ∧ Marked w fr ∧ ∀ f ∈ up, Marked w f) ∨ (∃ d ds, fr.defers = d :: ds ∧ d.target = .nil))
theorem qkf {P : Program} {fr : Frame} {cs : List Frame} {w : World} (hn : NB w) (h : qcm fr cs w) :
  (∃ o w1 es, stepG P true (G fr cs) w = .ended o w1 es) ∨ ∃ jv cs1 w1 es, stepG P true (G fr cs) w = .go (G jv cs1) w1 es ∧ NB w1 ∧ qcm jv cs1 w1 := by
 obtain ⟨⟨ch, hm⟩, hshape⟩ := h
 rw [qii _ _ _ _ _ hm]
 unfold unwind
 rcases hshape with ⟨up, rfl, hk, hup⟩ | ⟨d, ds, hd, ht⟩
 ·cases hd : fr.defers with
  |cons d ds =>
   obtain ⟨r, hr, hcl⟩ := hk d (by rw [hd]; simp)
   obtain ⟨t, ars⟩ := d
   obtain rfl : t = .collected r := hr
   dsimp only
   cases hrun : (Instr.takeDeferred r).runT P w #[] with
   |mk r0 es0 =>
    cases r0 with
    |halt h wx => exact .inl ⟨_, _, _, rfl⟩
    |ok v wx =>
     obtain ⟨rfl, hn'⟩ := qij hcl hrun
     exact .inr ⟨_, _, _, _, rfl, trivial, ⟨ch, hm⟩, .inl ⟨up, rfl, fun d' hd' => let ⟨r', x, y⟩ := hk d' (by rw [hd]; exact List.mem_cons_of_mem _ (by simpa using hd')); ⟨r', x, hn' r' y⟩, fun f hf => (hup f hf).keep hn'⟩⟩
  |nil =>
   rw [hm]
   dsimp only
   split
   ·exact .inl ⟨_, _, _, rfl⟩
   ·cases up with
    |nil => exact .inr ⟨_, _, _, _, rfl, hn, raise_mode _ _, .inr ⟨_, [], qco _ _, rfl⟩⟩
    |cons f up =>
     refine .inr ⟨_, _, _, _, rfl, hn, raise_mode _ _, .inl ⟨up, rfl, ?_, fun g hg => hup g (by simp [hg])⟩⟩
     intro d' hd'
     rw [qco] at hd'
     exact hup f (by simp) d' hd'
 ·obtain ⟨t, ars⟩ := d
  obtain rfl : t = .nil := ht
  rw [hd]
  dsimp only
  unfold callDeferred
  rw [hm]
  exact .inl ⟨_, _, _, rfl⟩
theorem qhf {P : Program} {Q : Frame → List Frame → World → Prop} (hQ : ∀ fr cs w, Q fr cs w → ∀ ch, fr.mode ≠ .panicking ch) {fr : Frame} {cs : List Frame} {w : World} (h : qjh P Q fr cs w) : NB w → qcm fr cs w → False := by
 induction h with
 |done hq => intro _ ⟨⟨ch, e⟩, _⟩; exact hQ _ _ _ hq ch e
 |step hs _ ih =>
  intro hn hp
  rcases qkf hn hp with ⟨o, w1, es, e⟩ | ⟨jv, cs1, w1, es, e, hn1, hp1⟩
  ·rw [hs] at e; cases e
  ·rw [hs] at e; cases e; exact ih hn1 hp1
section
variable {X : Cx} {Fb : FuncId → Bool} {wr : Bool}
def Inv (X : Cx) (Fb : FuncId → Bool) (wr : Bool) (fr : Frame) (cs : List Frame) (w : World) : Prop :=
 ∃ ρ fr' up up' w', cs = up ++ [c0] ∧ FR X Fb wr ρ fr fr' ∧ FsR X Fb wr ρ up up' ∧ WR X ρ w w' ∧ NB w ∧ Bot (fr :: up)
theorem WR.re {ρ : Rel} {w w' : World} (h : WR X ρ w w') (τ : Tape) : WR X ρ (re w τ) { w' with tape := τ, drawn := w.drawn } :=
 ⟨h.fn, h.inj, h.heap, fun _ _ => rfl, h.sh⟩
theorem Inv.re {fr : Frame} {cs : List Frame} {w : World} (h : Inv X Fb wr fr cs w) (τ : Tape) : Inv X Fb wr fr cs (re w τ) := by
 obtain ⟨ρ, fr', up, up', w', h1, h2, h3, h4, h5, h6⟩ := h
 exact ⟨ρ, fr', up, up', _, h1, h2, h3, h4.re τ, h5, h6⟩
theorem Inv.loc (S : X.Set Fb wr (fun _ => false)) {fr : Frame} {cs : List Frame} {w : World} (h : Inv X Fb wr fr cs w) : qb5 (fun w => stepG X.P true (G fr cs) w) w := by
 obtain ⟨ρ, fr', up, up', w', rfl, h2, h3, h4, h5, h6⟩ := h
 exact qzk S h2 h4 true (by simp)
theorem Inv.step (S : X.Set Fb wr (fun _ => false)) {fr : Frame} {cs : List Frame} {w : World} (h : Inv X Fb wr fr cs w) (hgo : fr.mode = .run ∨ fr.defers ≠ [] ∨ cs ≠ [c0]) :
  (∃ o w1 es, stepG X.P true (G fr cs) w = .ended o w1 es) ∨ ∃ jv cs1 w1 es, stepG X.P true (G fr cs) w = .go (G jv cs1) w1 es ∧ (Inv X Fb wr jv cs1 w1 ∨ (NB w1 ∧ qcm jv cs1 w1)) := by
 obtain ⟨ρ, fr', up, up', w', rfl, h2, h3, h4, h5, h6⟩ := h
 have out := qhg S (base := [c0]) (base' := [c0]) h2 h3 h4 h5 h6 (hgo.imp id (Or.imp id fun h e => h (by rw [e]; rfl))) true true
 generalize hs : stepG X.P true (G fr (up ++ [c0])) w = s at out ⊢
 cases out with
 |nice e h1 h2 h3 h4 h5 h6 h7 h8 => exact .inr ⟨_, _, _, _, rfl, .inl ⟨_, _, _, _, _, rfl, h1, h2, h3, h7, h8⟩⟩
 |special k1 k2 => cases k2
 |panic h1 h2 => exact .inr ⟨_, _, _, _, rfl, .inr ⟨trivial, ⟨_, rfl⟩, .inl ⟨_, rfl, h1, h2⟩⟩⟩
 |ended => exact .inl ⟨_, _, _, rfl⟩
abbrev St := Frame × List Frame × World
def Agree (w : World) (τ : Tape) : Prop := ∀ i q, i < w.drawn → τ i q = w.tape i q
theorem qlr (S : X.Set Fb wr (fun _ => false)) {fr : Frame} {cs : List Frame} {w : World} (h : Inv X Fb wr fr cs w) (hgo : ¬ (fr.mode = .run ∨ fr.defers ≠ [] ∨ cs ≠ [c0])) :
  (∃ o w1 es, stepG X.P true (G fr cs) w = .ended o w1 es) ∨ ∃ jv cs1 w1 es, stepG X.P true (G fr cs) w = .go (G jv cs1) w1 es ∧ NB w1 ∧ qcm jv cs1 w1 := by
 obtain ⟨ρ, fr', up, up', w', e0, hf, h3, hw, hn, h6⟩ := h
 obtain ⟨fn, tmps, todo, defers, mode, kind, ro⟩ := fr
 obtain rfl : kind = .normal := hf.kind
 have hcs : cs = [c0] := Classical.byContradiction fun h => hgo (.inr (.inr h))
 have hd : defers = [] := Classical.byContradiction fun h => hgo (.inr (.inl h))
 have hm : mode = .returning := hf.run.resolve_left fun h => hgo (.inl h)
 subst hcs; subst hd; subst hm
 rw [zm _ _ _ _ _ rfl]
 obtain ⟨f, q1, q2⟩ := hf.same
 have q1 : X.P.funcs[fn]? = some f := q1
 unfold unwind
 dsimp only
 rw [q1]
 dsimp only
 rcases hr : (results f tmps).runT X.P w #[] with ⟨r0, es0⟩
 cases r0 with
 |halt h wx => cases h <;> exact .inl ⟨_, _, _, rfl⟩
 |ok v wx =>
  obtain ⟨ρ1, v', w1', es1, h1, h2, h3, h4, h5, h6, h7⟩ := qci (SS.results S.ok hf.tmps) hw hr
  exact .inr ⟨_, _, _, _, rfl, trivial, ⟨[], rfl⟩, .inr ⟨_, [], rfl, rfl⟩⟩
theorem qwo (S : X.Set Fb wr (fun _ => false)) {fr : Frame} {cs : List Frame} {w : World} (h : Inv X Fb wr fr cs w) (hgo : ¬ (fr.mode = .run ∨ fr.defers ≠ [] ∨ cs ≠ [c0])) {jv : Frame} {cs1 : List Frame} {w1 : World} {es : Array Event}
  (hs : stepG X.P true (G fr cs) w = .go (G jv cs1) w1 es) : NB w1 ∧ qcm jv cs1 w1 := by
 rcases qlr S h hgo with ⟨o, w2, es2, e⟩ | ⟨fr2, cs2, w2, es2, e, h1, h2⟩
 ·rw [hs] at e; cases e
 ·rw [hs] at e; cases e; exact ⟨h1, h2⟩
theorem bar (S : X.Set Fb wr (fun _ => false)) {Q : Frame → List Frame → World → Prop} (hQ : ∀ fr cs w, Q fr cs w → ∀ ch, fr.mode ≠ .panicking ch)
  (q86 : ∀ fr cs w τ, Inv X Fb wr fr cs w → Agree w τ → Q fr cs (re w τ) → Q fr cs w)
  {fr : Frame} {cs : List Frame} {w : World} (hinv : Inv X Fb wr fr cs w) (hall : ∀ τ, Agree w τ → qjh X.P Q fr cs (re w τ)) : qaw X.P Q fr cs w := by
 classical
 -- a bad state
 let Bad (s : St) : Prop := Inv X Fb wr s.1 s.2.1 s.2.2 ∧ (∀ τ, Agree s.2.2 τ → qjh X.P Q s.1 s.2.1 (re s.2.2 τ)) ∧ ¬ qaw X.P Q s.1 s.2.1 s.2.2
 -- and the next
 have next : ∀ s : St, Bad s → ∃ s1 : St, Bad s1 ∧ s.2.2.drawn ≤ s1.2.2.drawn ∧ Agree s.2.2 s1.2.2.tape ∧ ∃ es, ∀ T, Agree s1.2.2 T → stepG X.P true (G s.1 s.2.1) (re s.2.2 T) = .go (G s1.1 s1.2.1) (re s1.2.2 T) es := by
  rintro ⟨fr, cs, w⟩ ⟨hi, hr, hb⟩
  dsimp only at hi hr hb ⊢
  have nq : ∀ τ, Agree w τ → ¬ Q fr cs (re w τ) := fun τ ha h => hb (.done (q86 _ _ _ τ hi ha h))
  have hgo : fr.mode = .run ∨ fr.defers ≠ [] ∨ cs ≠ [c0] := by
   by_cases h : fr.mode = .run ∨ fr.defers ≠ [] ∨ cs ≠ [c0]
   ·exact h
   ·have hi0 := hi
    cases hr w.tape fun _ _ _ => rfl with
    |done hq => exact absurd hq (nq _ (fun _ _ _ => rfl))
    |step hs h2 =>
     have hs : stepG X.P true (G fr cs) w = _ := hs
     obtain ⟨e, hp⟩ := qwo S hi h hs
     exact (qhf hQ h2 e hp).elim
  have : ∃ τ, Agree w τ ∧ ∀ jv cs1 w1 es, stepG X.P true (G fr cs) (re w τ) = .go (G jv cs1) w1 es → ¬ qaw X.P Q jv cs1 w1 := by
   refine Classical.byContradiction fun hc => hb ?_
   have hc' : ∀ τ, Agree w τ → ∃ jv cs1 w1 es, stepG X.P true (G fr cs) (re w τ) = .go (G jv cs1) w1 es ∧ qaw X.P Q jv cs1 w1 := fun τ ha =>
    Classical.byContradiction fun hn => hc ⟨τ, ha, fun jv cs1 w1 es h1 h2 => hn ⟨jv, cs1, w1, es, h1, h2⟩⟩
   refine .step (fun τ => if h : Agree w τ then (hc' τ h).choose else default) (fun τ => if h : Agree w τ then (hc' τ h).choose_spec.choose else default) (fun τ => if h : Agree w τ then (hc' τ h).choose_spec.choose_spec.choose else default)
    (fun τ => if h : Agree w τ then (hc' τ h).choose_spec.choose_spec.choose_spec.choose else default) (fun τ h => ?_) (fun τ h => ?_)
   ·have h : Agree w τ := h
    rw [dif_pos h, dif_pos h, dif_pos h, dif_pos h]
    exact (hc' τ h).choose_spec.choose_spec.choose_spec.choose_spec.1
   ·have h : Agree w τ := h
    rw [dif_pos h, dif_pos h, dif_pos h]
    exact (hc' τ h).choose_spec.choose_spec.choose_spec.choose_spec.2
  obtain ⟨τ, ha, hno⟩ := this
  have hloc := (hi.re τ).loc S
  rcases (hi.re τ).step S hgo with ⟨o, w1, es, e⟩ | ⟨jv, cs1, w1, es, e, hi1⟩
  ·exfalso
   cases hr τ ha with
   |done hq => exact nq τ ha hq
   |step hs _ => rw [e] at hs; cases hs
  ·obtain ⟨d1, d2, d3⟩ := hloc _ _ _ e
   have key : ∀ T, Agree w1 T → stepG X.P true (G fr cs) (re w T) = .go (G jv cs1) (re w1 T) es := fun T hT => d3 T fun i q hi => by rw [hT i q hi, d2]
   have hr1 : ∀ T, Agree w1 T → qjh X.P Q jv cs1 (re w1 T) := fun T hT => by
    have hT' : Agree w T := fun i q hi => by
     rw [hT i q (xll hi d1), d2]
     exact ha i q hi
    cases hr T hT' with
    |done hq => exact absurd hq (nq T hT')
    |step hs h2 => rw [key T hT] at hs; cases hs; exact h2
   have hrw : qjh X.P Q jv cs1 w1 := hr1 w1.tape fun _ _ _ => rfl
   refine ⟨⟨jv, cs1, w1⟩, ⟨?_, hr1, hno _ _ _ _ e⟩, d1, fun i q hi => by show w1.tape i q = _; rw [d2]; exact ha i q hi, es, key⟩
   exact hi1.resolve_right fun ⟨h1, h2⟩ => qhf hQ hrw h1 h2
 refine Classical.byContradiction fun hb => ?_
 have b0 : Bad (fr, cs, w) := ⟨hinv, hall, hb⟩
 let nx : { s : St // Bad s } → { s : St // Bad s } := fun s => ⟨(next s.1 s.2).choose, (next s.1 s.2).choose_spec.1⟩
 have hnx : ∀ s : { s : St // Bad s }, s.1.2.2.drawn ≤ (nx s).1.2.2.drawn ∧ Agree s.1.2.2 (nx s).1.2.2.tape ∧
   ∃ es, ∀ T, Agree (nx s).1.2.2 T → stepG X.P true (G s.1.1 s.1.2.1) (re s.1.2.2 T) = .go (G (nx s).1.1 (nx s).1.2.1) (re (nx s).1.2.2 T) es := fun s => (next s.1 s.2).choose_spec.2
 let c : Nat → { s : St // Bad s } := fun n => Nat.rec ⟨(fr, cs, w), b0⟩ (fun _ s => nx s) n
 have hnext : ∀ n, (c n).1.2.2.drawn ≤ (c (n + 1)).1.2.2.drawn ∧ Agree (c n).1.2.2 (c (n + 1)).1.2.2.tape ∧
   ∃ es, ∀ T, Agree (c (n + 1)).1.2.2 T → stepG X.P true (G (c n).1.1 (c n).1.2.1) (re (c n).1.2.2 T) = .go (G (c (n + 1)).1.1 (c (n + 1)).1.2.1) (re (c (n + 1)).1.2.2 T) es := fun n => hnx (c n)
 clear_value c
 have mono : ∀ j d, (c j).1.2.2.drawn ≤ (c (j + d)).1.2.2.drawn ∧ Agree (c j).1.2.2 (c (j + d)).1.2.2.tape := by
  intro j d
  induction d with
  |zero => exact ⟨jy _, fun _ _ _ => rfl⟩
  |succ d ih =>
   obtain ⟨h1, h2, -⟩ := hnext (j + d)
   exact ⟨xlt ih.1 h1, fun i q hi => (h2 i q (xll hi ih.1)).trans (ih.2 i q hi)⟩
 let T : Tape := fun i q => if h : ∃ k, i < (c k).1.2.2.drawn then (c h.choose).1.2.2.tape i q else 0
 have hT : ∀ k, Agree (c k).1.2.2 T := by
  intro k i q hi
  have h : ∃ k, i < (c k).1.2.2.drawn := ⟨k, hi⟩
  have e : T i q = (c h.choose).1.2.2.tape i q := dif_pos h
  rw [e]
  have hk := h.choose_spec
  generalize h.choose = k' at hk
  rcases Nat.le_total k k' with hle | hle
  ·obtain ⟨d, rfl⟩ := Nat.exists_eq_add_of_le hle
   exact (mono k d).2 i q hi
  ·obtain ⟨d, rfl⟩ := Nat.exists_eq_add_of_le hle
   exact ((mono k' d).2 i q hk).symm
 have never : ∀ fr cs w, qjh X.P Q fr cs w → ∀ k, fr = (c k).1.1 → cs = (c k).1.2.1 → w = re (c k).1.2.2 T → False := by
  intro fr cs w h
  induction h with
  |done hq =>
   rintro k rfl rfl rfl
   exact (c k).2.2.2 (.done (q86 _ _ _ T (c k).2.1 (hT k) hq))
  |step hs _ ih =>
   rintro k rfl rfl rfl
   obtain ⟨-, -, es, h⟩ := hnext k
   rw [h T (hT _)] at hs
   cases hs
   exact ih (k + 1) rfl rfl rfl
 exact never _ _ _ ((c 0).2.2.1 T (hT 0)) 0 rfl rfl rfl
end
section
variable {X : Cx} {Fb : FuncId → Bool} {wr : Bool}
theorem qxs {fr fr' : Frame} {cs cs' : List Frame} {w w' : World} (h : lone fr cs w = lone fr' cs' w') : fr = fr' ∧ cs = cs' ∧ w = w' := by
 unfold lone at h
 injection h with h1 h2
 simp at h2
 exact ⟨h2.1, h2.2, h1⟩
theorem bare_go {s : GStep} {g : Goroutine} {w : World} {es : Array Event} (h : s = .go g w es) : s.bare = .go g w := by rw [h]; rfl
theorem bare_ended {s : GStep} {o : Outcome} {w : World} {es : Array Event} (h : s = .ended o w es) : s.bare = .ended o w := by rw [h]; rfl
theorem conv (S : X.Set Fb wr (fun _ => false)) {Q : Frame → List Frame → World → Prop} {fr' : Frame} {cs' : List Frame} {w' : World} (hq : Q fr' cs' w') : ∀ (n : Nat) {fr : Frame} {cs : List Frame} {w : World},
  (Inv X Fb wr fr cs w ∨ (NB w ∧ qcm fr cs w)) → runN X.P n (lone fr cs w) = .next (lone fr' cs' w') → qjh X.P Q fr cs w := by
 intro n
 induction n with
 |zero =>
  intro fr cs w _ h
  have h : Stepped.next (lone fr cs w) = .next (lone fr' cs' w') := h
  injection h with h
  obtain ⟨rfl, rfl, rfl⟩ := qxs h
  exact .done hq
 |succ n ih =>
  intro fr cs w hi h
  have key : (∃ o w1 es, stepG X.P true (G fr cs) w = .ended o w1 es) ∨ ∃ jv cs1 w1 es, stepG X.P true (G fr cs) w = .go (G jv cs1) w1 es ∧ (Inv X Fb wr jv cs1 w1 ∨ (NB w1 ∧ qcm jv cs1 w1)) := by
   rcases hi with hi | ⟨hn, hp⟩
   ·by_cases hgo : fr.mode = .run ∨ fr.defers ≠ [] ∨ cs ≠ [c0]
    ·exact hi.step S hgo
    ·exact (qlr S hi hgo).imp id fun ⟨jv, cs1, w1, es, a, b⟩ => ⟨jv, cs1, w1, es, a, .inr b⟩
   ·rcases qkf hn hp with h1 | ⟨jv, cs1, w1, es, h1, h2, h3⟩
    ·exact .inl h1
    ·exact .inr ⟨_, _, _, _, h1, .inr ⟨h2, h3⟩⟩
  unfold runN at h
  rcases key with ⟨o, w1, es, e⟩ | ⟨jv, cs1, w1, es, e, hi1⟩
  ·rw [step_lone_ended (bare_ended e)] at h
   cases h
  ·rw [step_lone_go (bare_go e)] at h
   exact .step e (ih hi1 h)
def Done (P : Program) (R : Value → World → Prop) (fr : Frame) (cs : List Frame) (w : World) : Prop := cs = [c0] ∧ ∃ v, fr.leaving P w (.returned v) ∧ R v w
end
abbrev Blocks := Nat → Prop
structure Ext (F : Blocks) (w w1 : World) : Prop where
 size : w.heap.size ≤ w1.heap.size
 keep : ∀ b, F b → w1.heap[b]? = w.heap[b]?
theorem Ext.refl (F : Blocks) (w : World) : Ext F w w := ⟨jy _, fun _ _ => rfl⟩
theorem Ext.trans {F : Blocks} {a b c : World} (h : Ext F a b) (k : Ext F b c) : Ext F a c := ⟨xlt h.size k.size, fun x hx => (k.keep x hx).trans (h.keep x hx)⟩
theorem Ext.sub {F F' : Blocks} {a b : World} (h : Ext F a b) (hs : ∀ x, F' x → F x) : Ext F' a b := ⟨h.size, fun x hx => h.keep x (hs x hx)⟩
def EvF (F O : Blocks) (e : Event) : Prop :=
 match e.loc with
 | .cell a => e.sync = false ∧ F a.block ∧ (e.write = true → O a.block)
 | .obj r => e.sync = false ∧ F r ∧ (e.write = true → O r)
 | .mark .noRoom => True
 |_ => False
structure xh (F O : Blocks) (w : World) (F' O' : Blocks) (w' : World) (es : Array Event) : Prop where
 sub : ∀ b, F b → F' b
 q6u : ∀ b, O b → O' b
 new : ∀ b, F' b → F b ∨ w.heap.size ≤ b
 qo8 : ∀ b, O' b → O b ∨ w.heap.size ≤ b
 own : ∀ b, O' b → F' b
 keep : ∀ b, b < w.heap.size → ¬ O b → w'.heap[b]? = w.heap[b]?
 size : w.heap.size ≤ w'.heap.size
 low : ∀ b, F' b → b < w'.heap.size
 drawn : ∃ d, w'.drawn = w.drawn + d
 tape : w'.tape = w.tape
 os : w'.os = w.os
 output : w'.output = w.output
 ev : ∀ e ∈ es, EvF F' O' e
 nb : NB w → NB w'
inductive Rank where
 |leaf
 |node (f : World → Rank)
def Rank.sub : Rank → Rank → Prop
 |r, .node f => ∃ w, r = f w
 |_, .leaf => False
theorem Rank.wf : WellFounded Rank.sub := ⟨fun r => by
 induction r with
 |leaf => exact ⟨_, fun y h => h.elim⟩
 |node f ih => exact ⟨_, fun y ⟨w, e⟩ => e ▸ ih w⟩⟩
section
variable (P : Program) (main : Bool) (Stop : Blocks → Blocks → Goroutine → World → Prop)
def WGo : Rank → Blocks → Blocks → Goroutine → World → Prop
 | .leaf, F, O, g, w => ∀ w1, Ext F w w1 → Stop F O g w1
 | .node f, F, O, g, w => g.status = .running ∧ ∀ w1, Ext F w w1 → ∃ F' O' g' w' es, stepG P main g w1 = .go g' w' es ∧ xh F O w1 F' O' w' es ∧ WGo (f w1) F' O' g' w'
def WG (F O : Blocks) (g : Goroutine) (w : World) : Prop := ∃ r, WGo P main Stop r F O g w
end
section
variable {P : Program} {main : Bool} {Stop Stop' : Blocks → Blocks → Goroutine → World → Prop} {F O : Blocks} {g : Goroutine} {w : World}
theorem WGo.ext {r : Rank} {w1 : World} (h : WGo P main Stop r F O g w) (e : Ext F w w1) : WGo P main Stop r F O g w1 := by
 cases r with
 |leaf => exact fun w2 e2 => h w2 (e.trans e2)
 |node f => exact ⟨h.1, fun w2 e2 => h.2 w2 (e.trans e2)⟩
theorem WG.stop (h : ∀ w1, Ext F w w1 → Stop F O g w1) : WG P main Stop F O g w := ⟨.leaf, h⟩
theorem WG.step (hr : g.status = .running) (h : ∀ w1, Ext F w w1 → ∃ F' O' g' w' es, stepG P main g w1 = .go g' w' es ∧ xh F O w1 F' O' w' es ∧ WG P main Stop F' O' g' w') : WG P main Stop F O g w := by
 classical
 have h' : ∀ w1, Ext F w w1 → ∃ r F' O' g' w' es, stepG P main g w1 = .go g' w' es ∧ xh F O w1 F' O' w' es ∧ WGo P main Stop r F' O' g' w' := fun w1 e => by
  obtain ⟨F', O', g', w', es, h1, h2, r, h3⟩ := h w1 e
  exact ⟨r, F', O', g', w', es, h1, h2, h3⟩
 refine ⟨.node fun w1 => if e : Ext F w w1 then (h' w1 e).choose else .leaf, hr, fun w1 e => ?_⟩
 have er : (if e : Ext F w w1 then (h' w1 e).choose else Rank.leaf) = (h' w1 e).choose := dif_pos e
 show ∃ F' O' g' w' es, _ ∧ _ ∧ WGo P main Stop (if e : Ext F w w1 then (h' w1 e).choose else Rank.leaf) F' O' g' w'
 rw [er]
 exact (h' w1 e).choose_spec
theorem WG.ext {w1 : World} (h : WG P main Stop F O g w) (e : Ext F w w1) : WG P main Stop F O g w1 := let ⟨r, h⟩ := h; ⟨r, h.ext e⟩
theorem WG.then (h : WG P main Stop F O g w) (k : ∀ F O g w, Stop F O g w → WG P main Stop' F O g w) : WG P main Stop' F O g w := by
 obtain ⟨r, h⟩ := h
 induction r generalizing F O g w with
 |leaf => exact k _ _ _ _ (h w (Ext.refl ..))
 |node f ih =>
  refine WG.step h.1 fun w1 e => ?_
  obtain ⟨F', O', g', w', es, h1, h2, h3⟩ := h.2 w1 e
  exact ⟨F', O', g', w', es, h1, h2, ih w1 h3⟩
end
section
variable {X : Cx} {Fb : FuncId → Bool} {wr : Bool} {sp : FuncId → Bool}
def WN (X : Cx) (ρ : Rel) (w w' : World) : Prop := ∃ τ, Agree w τ ∧ WR X ρ (re w τ) w'
def rng (ρ : Rel) : Blocks := fun b => ∃ a, ρ a b
def own (X : Cx) (ρ : Rel) : Blocks := fun b => ∃ a, ρ a b ∧ ¬ X.Sh a
theorem WN.of {ρ : Rel} {w w' : World} (h : WR X ρ w w') : WN X ρ w w' := ⟨w.tape, fun _ _ _ => rfl, h⟩
theorem WN.ext {ρ : Rel} {w w' w1 : World} (h : WN X ρ w w') (e : Ext (rng ρ) w' w1) : WN X ρ w w1 := by
 obtain ⟨τ, h1, h2⟩ := h
 refine ⟨fun i q => if i < w.drawn then w.tape i q else w1.tape (w1.drawn + (i - w.drawn)) q, fun i q hi => if_pos hi, h2.fn, h2.inj, fun {a b} hab => ?_, fun i q => ?_, h2.sh⟩
 ·obtain ⟨o, o', k1, k2, k3⟩ := h2.heap hab
  exact ⟨o, o', k1, (e.keep b ⟨a, hab⟩).trans k2, k3⟩
 ·show (if w.drawn + i < w.drawn then _ else _) = _
  have e1 : (re w fun i q => if i < w.drawn then w.tape i q else w1.tape (w1.drawn + (i - w.drawn)) q).drawn = w.drawn := rfl
  rw [e1, if_neg (by omega)]
  congr 1
  omega
theorem qcs {ρ ρ1 : Rel} {w w' w1 w1' : World} {es : Array Event} (hw : WR X ρ w w') (h : Eff X ρ ρ1 w' w1' w) (h1 : WR X ρ1 w1 w1') (hev : ∀ e ∈ es, qhn X ρ1 e) : xh (rng ρ) (own X ρ) w' (rng ρ1) (own X ρ1) w1' es := by
 refine ⟨fun b ⟨a, hab⟩ => ⟨a, h.le _ _ hab⟩, fun b ⟨a, hab, hn⟩ => ⟨a, h.le _ _ hab, hn⟩, fun b ⟨a, hab⟩ => ?_, fun b ⟨a, hab, hn⟩ => ?_, fun b ⟨a, hab, _⟩ => ⟨a, hab⟩, fun b hb hn => h.keep b hb fun a hab => Classical.byContradiction fun hs => hn ⟨a, hab, hs⟩, h.size, fun b ⟨a, hab⟩ => (h1.bound hab).2, h.drawn, h.tape, h.os, h.output, fun e he => ?_, fun _ => trivial⟩
 ·exact (h.new a b hab).imp (fun x => ⟨a, x⟩) (·.2)
 ·exact (h.new a b hab).imp (fun x => ⟨a, x, hn⟩) (·.2)
 ·have := hev e he
  obtain ⟨loc, wt, sy⟩ := e
  cases loc with
  |cell a => exact ⟨this.1, let ⟨b, x, _⟩ := this.2; ⟨b, x⟩, fun hw => let ⟨b, x, y⟩ := this.2; ⟨b, x, y hw⟩⟩
  |obj r => exact ⟨this.1, let ⟨b, x, _⟩ := this.2; ⟨b, x⟩, fun hw => let ⟨b, x, y⟩ := this.2; ⟨b, x, y hw⟩⟩
  |mark m => cases m <;> first | trivial | exact this.elim
  |_ => exact this.elim
inductive qvq (X : Cx) (Fb : FuncId → Bool) (wr : Bool) (sp : FuncId → Bool) (base' : List Frame) (Q : Frame → List Frame → World → Prop) : Blocks → Blocks → Goroutine → World → Prop
 |done {ρ : Rel} {fr fr' : Frame} {up up' : List Frame} {w w' : World} : FR X Fb wr ρ fr fr' → FsR X Fb wr ρ up up' → WN X ρ w w' → NB w → Bot (fr :: up) → Q fr (up ++ [c0]) w → qvq X Fb wr sp base' Q (rng ρ) (own X ρ) (G fr' (up' ++ base')) w'
 |special {ρ : Rel} {fr fr' : Frame} {up up' : List Frame} {f : FuncId} {ars zw : Array Value} {w w' : World} : X.F f → sp f = true → jw X.F ρ ars.toList zw.toList → FR X Fb wr ρ fr fr' → FsR X Fb wr ρ up up' → WN X ρ w w' → NB w → Bot (fr :: up) →
   qaw X.P Q (Frame.enter X.P f ars .normal) (fr :: up ++ [c0]) w → qvq X Fb wr sp base' Q (rng ρ) (own X ρ) (G (Frame.enter X.P' f zw .normal) (fr' :: up' ++ base')) w'
theorem qeg (S : X.Set Fb wr sp) {ρ : Rel} {fr fr' : Frame} {w w' : World} (hf : FR X Fb wr ρ fr fr') (hw : WR X ρ w w') (hn : NB w) (hgo : ¬ (fr.mode = .run ∨ fr.defers ≠ [])) {jv : Frame} {cs1 : List Frame} {w1 : World} {es : Array Event}
  (hs : stepG X.P true (G fr [c0]) w = .go (G jv cs1) w1 es) : NB w1 ∧ qcm jv cs1 w1 := by
 obtain ⟨fn, tmps, todo, defers, mode, kind, ro⟩ := fr
 obtain rfl : kind = .normal := hf.kind
 have hd : defers = [] := Classical.byContradiction fun h => hgo (.inr h)
 have hm : mode = .returning := hf.run.resolve_left fun h => hgo (.inl h)
 subst hd; subst hm
 rw [zm _ _ _ _ _ rfl] at hs
 obtain ⟨f, q1, q2⟩ := hf.same
 have q1 : X.P.funcs[fn]? = some f := q1
 unfold unwind at hs
 dsimp only at hs
 rw [q1] at hs
 dsimp only at hs
 rcases hr : (results f tmps).runT X.P w #[] with ⟨r0, es0⟩
 rw [hr] at hs
 cases r0 with
 |halt h wx => cases h <;> cases hs
 |ok v wx =>
  obtain ⟨ρ1, v', w1', es1, h1, h2, h3, h4, h5, h6, h7⟩ := qci (SS.results S.ok hf.tmps) hw hr
  cases hs
  exact ⟨trivial, ⟨[], rfl⟩, .inr ⟨_, [], rfl, rfl⟩⟩
theorem q6p (S : X.Set Fb wr sp) (main : Bool) (base' : List Frame) {Q : Frame → List Frame → World → Prop} (hQ : ∀ fr cs w, Q fr cs w → ∀ ch, fr.mode ≠ .panicking ch) : ∀ {fr : Frame} {cs : List Frame} {w : World}, qaw X.P Q fr cs w →
  ∀ {ρ : Rel} {fr' : Frame} {up up' : List Frame} {w' : World}, cs = up ++ [c0] → FR X Fb wr ρ fr fr' → FsR X Fb wr ρ up up' → WN X ρ w w' → NB w → Bot (fr :: up) →
   WG X.P' main (qvq X Fb wr sp base' Q) (rng ρ) (own X ρ) (G fr' (up' ++ base')) w' := by
 intro fr cs w h
 induction h with
 |done hq =>
  rintro ρ fr' up up' w' rfl hf hu hw hn hB
  exact WG.stop fun w1 e => .done hf hu (hw.ext e) hn hB hq
 | @step fr cs w nf nc nw ne hs hm ih =>
  rintro ρ fr' up up' w' rfl hf hu hw hn hB
  refine WG.step rfl fun w1 e => ?_
  obtain ⟨τ, ha, hw⟩ := hw.ext e
  have hs := hs τ ha
  have hm := hm τ ha
  have ih := @ih τ ha
  have hs : stepG X.P true (G fr (up ++ [c0])) (re w τ) = _ := hs
  by_cases hgo : fr.mode = .run ∨ fr.defers ≠ [] ∨ up ≠ []
  ·have out := qhg S (base := [c0]) (base' := base') hf hu hw hn hB hgo true main
   rw [hs] at out
   generalize nf τ = jv, nc τ = cs1, nw τ = w1l, ne τ = es1 at *
   generalize hg : GStep.go (G jv cs1) w1l es1 = s at out
   cases out with
   |nice e h1 h2 h3 h4 h5 h6 h7 h8 =>
    cases hg
    exact ⟨_, _, _, _, _, e, qcs hw h4 h3 h6, ih rfl h1 h2 (WN.of h3) h7 h8⟩
   |special k1 k2 e h0 h1 h2 h3 h4 h5 h6 h7 h8 =>
    cases hg
    exact ⟨_, _, _, _, _, e, qcs hw h4 h3 h6, WG.stop fun w2 e2 => .special k1 k2 h0 h1 h2 ((WN.of h3).ext e2) h7 h8 hm⟩
   |panic h1 h2 =>
    cases hg
    exact (kg hQ hm trivial ⟨_, rfl⟩ (.inl ⟨_, rfl, h1, h2⟩)).elim
   |ended => cases hg
  ·have hup : up = [] := Classical.byContradiction fun h => hgo (.inr (.inr h))
   subst hup
   obtain ⟨h1, h2, h3⟩ := qeg S hf hw hn (fun h => hgo (h.imp id .inl)) hs
   exact (kg hQ hm h1 h2 h3).elim
end
end Go.Proofs.YtkpekiajdlolnabGreat.Sim
namespace Go.Proofs.YtkpekiajdlolnabGreat.Ph
section
open Go Go.Conc Sim
open Go.ConcN (sumTo upd sumTo_upd upd_ne upd_same)
def qea (B : Nat) (x : MemAct) : Prop := ∀ y, x.touch? = some y → y.loc.low B
theorem qem {B : Nat} {x : MemAct} (h : x.low B) : qea B x := by
 intro y hy
 cases x with
 |access e => simp only [MemAct.touch?, Option.some.injEq] at hy; subst hy; exact h
 |mark m => cases m <;> first | (cases hy; done) | (simp only [MemAct.touch?, Option.some.injEq] at hy; subst hy; exact h)
 |_ => cases hy
theorem qea.mono {B B' : Nat} (h : B ≤ B') {x : MemAct} (hx : qea B x) : qea B' x := fun y hy => Loc.low_mono h (hx y hy)
theorem qfv {B : Nat} {t u : Trace} (h : ∀ op ∈ t, qea B op.act) (hu : ∀ op ∈ u, qea B op.act) : ∀ op ∈ t ++ u, qea B op.act := fun op hop => (Array.mem_append.1 hop).elim (h op) (hu op)
theorem qxt (x : MemAct) : ∃ B, x.low B := by
 cases x with
 |access e =>
  obtain ⟨l, wt, sy⟩ := e
  cases l with
  |cell a => exact ⟨a.block + 1, Nat.lt_succ_self _⟩
  |obj r => exact ⟨r + 1, Nat.lt_succ_self _⟩
  |_ => exact ⟨0, trivial⟩
 |mark m =>
  cases m with
  |acquire a | release a | releaseMerge a | read a | write a => exact ⟨a.block + 1, Nat.lt_succ_self _⟩
  |_ => exact ⟨0, trivial⟩
 |go _ | start => exact ⟨0, trivial⟩
 |send c _ | sendDone c _ | recv c _ _ | recvDone c _ | close c | recvClosed c => exact ⟨c + 1, Nat.lt_succ_self _⟩
theorem q1u (t : Trace) : ∃ B, ∀ op ∈ t, op.act.low B := by
 obtain ⟨l⟩ := t
 induction l with
 |nil => exact ⟨0, by simp⟩
 |cons x l ih =>
  obtain ⟨B, h⟩ := ih
  obtain ⟨B', h'⟩ := qxt x.act
  refine ⟨max B B', fun op hop => ?_⟩
  simp only [List.mem_toArray, List.mem_cons] at hop
  rcases hop with rfl | hop
  ·exact MemAct.low_mono (Nat.le_max_right ..) h'
  ·exact MemAct.low_mono (Nat.le_max_left ..) (h op (by simpa using hop))
def ShB (SB : Blocks) : Loc → Prop := fun l => ∃ a, l = .cell a ∧ SB a.block
structure vo (SB : Blocks) (w : World) (n : Nat) (t : Trace) : Prop where
 past : ∃ B, Past (ShB SB) B t
 seen : ∀ op ∈ t, qea w.heap.size op.act
 mem : ∀ i a, touchAt t i = some a → a.loc.isMemory = true
 quiet : Quiet (ShB SB) t
 gs : ∀ op ∈ t, op.g < n
structure qbt (SB F O : Blocks) (w : World) : Prop where
 apart : ∀ b, F b → ¬ SB b
 low : ∀ b, SB b → b < w.heap.size
 own : ∀ b, O b → F b
 foot : ∀ b, F b → b < w.heap.size
theorem qm1 {SB F O : Blocks} {B : Nat} {e : Event} (h : EvF F O e) (ha : ∀ b, F b → ¬ SB b) (hB : ∀ b, F b → b < B) : EvL (ShB SB) B e := by
 obtain ⟨loc, wt, sy⟩ := e
 cases loc with
 |cell a =>
  obtain ⟨h1, h2, h3⟩ := h
  have h1 : sy = false := h1
  subst h1
  refine evL_cell a wt ?_ (hB _ h2)
  rintro ⟨a', e, hs⟩
  cases e
  exact ha _ h2 hs
 |obj r =>
  obtain ⟨h1, h2, h3⟩ := h
  have h1 : sy = false := h1
  subst h1
  have e0 : MemAct.ofEvent ⟨.obj r, wt, false⟩ = .access ⟨.obj r, wt, false⟩ := by cases wt <;> rfl
  refine ⟨fun x hx hs => ?_, by simp, by simp, by rw [e0]; exact hB _ h2⟩
  obtain ⟨a', e, hs⟩ := hs
  rw [e0] at hx
  simp only [MemAct.touch?, Option.some.injEq] at hx
  subst hx
  cases e
 |mark m =>
  cases m with
  |noRoom => exact ⟨fun x hx => by simp [MemAct.ofEvent, MemAct.touch?] at hx, by simp, by simp, trivial⟩
  |_ => exact h.elim
 |_ => exact h.elim
theorem qfr {t u : Trace} (h : ∀ i a, touchAt t i = some a → a.loc.isMemory = true) (hu : ∀ op ∈ u, ∀ x, op.act.touch? = some x → x.loc.isMemory = true) : ∀ i a, touchAt (t ++ u) i = some a → a.loc.isMemory = true := by
 intro i a ha
 obtain ⟨op, hop, hox⟩ := touch_of ha
 rcases getElem?_append_cases hop with ⟨hi, hop'⟩ | ⟨_, hopu⟩
 ·exact h i a (by rw [touchAt_of hop']; exact hox)
 ·exact hu op hopu a hox
theorem qm0 {F O : Blocks} {e : Event} (h : EvF F O e) {y : Touch} (hy : (MemAct.ofEvent e).touch? = some y) : y.loc.isMemory = true ∧ y.kind = .plain ∧ ((∃ a, y.loc = .cell a ∧ F a.block) ∨ ∃ r, y.loc = .obj r ∧ F r) := by
 obtain ⟨loc, wt, sy⟩ := e
 cases loc with
 |cell b =>
  obtain ⟨h1, h2, h3⟩ := h
  have h1 : sy = false := h1
  subst h1
  rw [ofEvent_cell0] at hy
  simp only [MemAct.touch?, Option.some.injEq] at hy
  subst hy
  exact ⟨rfl, rfl, .inl ⟨b, rfl, h2⟩⟩
 |obj r =>
  obtain ⟨h1, h2, h3⟩ := h
  have h1 : sy = false := h1
  subst h1
  have e0 : MemAct.ofEvent ⟨.obj r, wt, false⟩ = .access ⟨.obj r, wt, false⟩ := by cases wt <;> rfl
  rw [e0] at hy
  simp only [MemAct.touch?, Option.some.injEq] at hy
  subst hy
  exact ⟨rfl, rfl, .inr ⟨r, rfl, h2⟩⟩
 |mark m =>
  cases m with
  |noRoom => simp [MemAct.ofEvent, MemAct.touch?] at hy
  |_ => exact h.elim
 |_ => exact h.elim
theorem vo.mute {SB : Blocks} {w : World} {n : Nat} {t : Trace} (h : vo SB w n t) {g : Nat} (hg : g ≠ 0) (hgn : g < n) {fn : FuncId} {pos : String} {es : Array Event} (hm : ∀ e ∈ es, e.mute = true) :
  vo SB w n (t ++ MemOp.ofEvents g fn pos es) := by
 obtain ⟨B, hP⟩ := h.past
 refine ⟨⟨B, hP.mute hg hm⟩, qfv h.seen (fun op hop => ?_), qfr h.mem (fun op hop x hx => ?_), h.quiet.app fun op hop x hx hs => ?_, fun op hop => ?_⟩
 ·obtain ⟨e, he, rfl⟩ := Go.Conc.mem_ofEvents hop
  exact qem (low_mute (hm e he) _)
 ·obtain ⟨e, he, rfl⟩ := Go.Conc.mem_ofEvents hop
  rw [touch_mute (hm e he)] at hx; cases hx
 ·obtain ⟨e, he, rfl⟩ := Go.Conc.mem_ofEvents hop
  rw [touch_mute (hm e he)] at hx
  cases hx
 ·rcases Array.mem_append.1 hop with h' | h'
  ·exact h.gs op h'
  ·obtain ⟨e, he, rfl⟩ := Go.Conc.mem_ofEvents h'
   exact hgn
theorem qbt.step {SB F O F' O' : Blocks} {w w' : World} (h : qbt SB F O w) {es : Array Event} (hok : xh F O w F' O' w' es) : qbt SB F' O' w' :=
 ⟨fun b hb hs => (hok.new b hb).elim (fun x => h.apart b x hs) (fun x => by have := h.low b hs; omega), fun b hb => xll (h.low b hb) hok.size, hok.own, hok.low⟩
structure Left (F O : Blocks) (w : World) (F' O' : Blocks) (w' : World) : Prop where
 sub : ∀ b, F b → F' b
 q6u : ∀ b, O b → O' b
 new : ∀ b, F' b → F b ∨ w.heap.size ≤ b
 qo8 : ∀ b, O' b → O b ∨ w.heap.size ≤ b
 keep : ∀ b, b < w.heap.size → ¬ O b → w'.heap[b]? = w.heap[b]?
 size : w.heap.size ≤ w'.heap.size
 tape : w'.tape = w.tape
 os : w'.os = w.os
 output : w'.output = w.output
section
variable {P : Program} {SB : Blocks} {Stop : Blocks → Blocks → Goroutine → World → Prop}
end
end
section
open Go Go.Conc Go.ConcN Go.RowKit Go.Conc.Lib Go.ConcR.Gen Go.ConcN.Gen Sim
open Go.ConcR (KK wgBlock WgAt stA smA rd wr mk DC0)
section
variable {L : WgLink}
structure RM (ty : TypeId) (Wg : Nat) (F : Blocks) (w w1 : World) : Prop where
 ext : Ext F w w1
 live : WgLive ty Wg w → WgLive ty Wg w1
theorem qa {ty : TypeId} {Wg : Nat} {F : Blocks} {w w1 : World} (h : WgLive ty Wg w) (r : RM ty Wg F w w1) : WgLive ty Wg w1 := r.live h
theorem yc {ty : TypeId} {Wg : Nat} {F : Blocks} (a b c : World) (h : RM ty Wg F a b) (k : RM ty Wg F b c) : RM ty Wg F a c := ⟨h.ext.trans k.ext, k.live ∘ h.live⟩
section
variable (P : Program) (ty : TypeId) (Wg : Nat) (F : Blocks)
def MG (Stop : Goroutine → World → Prop) (g : Goroutine) (w : World) : Prop := ∃ m, Goes P true (RM ty Wg F) DC0 Stop m g w
def qam (m : Mark) (K : Goroutine → World → Prop) (g : Goroutine) (w : World) : Prop :=
 g.status = .running ∧ ∃ g', stepG P true g w = .go g' w #[mk m] ∧ K g' w
def qe4 (K : Goroutine → World → Prop) (g : Goroutine) (w : World) : Prop :=
 g.status = .running ∧ ∀ v : Nat, v < 2147483647 → WgAt ty Wg w (v * KK) 0 →
  ∃ g', stepG P true g w = .go g' (w.setCell (stA Wg) (.int .u64 ((v + 1) * KK))) #[rd (stA Wg), wr (stA Wg)] ∧
   ((v = 0 ∧ MG P ty Wg F (qam P (.read (smA Wg)) (MG P ty Wg F (qam P .enable K))) g' (w.setCell (stA Wg) (.int .u64 ((v + 1) * KK)))) ∨
    (v ≠ 0 ∧ MG P ty Wg F (qam P .enable K) g' (w.setCell (stA Wg) (.int .u64 ((v + 1) * KK)))))
end
section
variable (P : Program) (ty : TypeId) (Wg : Nat) (F : Blocks)
def qjc (K : Goroutine → World → Prop) : Goroutine → World → Prop := MG P ty Wg F (qam P .enable (MG P ty Wg F (qam P (.acquire (stA Wg)) K)))
def qjb (K : Goroutine → World → Prop) (g : Goroutine) (w : World) : Prop :=
 g.status = .running ∧ (WgAt ty Wg w 0 0 → ∃ g', stepG P true g w = .go g' w #[rd (stA Wg)] ∧ qjc P ty Wg F K g' w)
def qf3 (K : Goroutine → World → Prop) (g : Goroutine) (w : World) : Prop :=
 g.status = .running ∧ g.offers = none ∧ ((∃ st, WgAt ty Wg w st 0) → stepG P true g w = .go { g with status := .blocked } w #[]) ∧
  (WgAt ty Wg w 0 1 → ∃ g', stepG P true g w = .go g' (w.setCell (smA Wg) (.int .u32 0)) (semEvents (smA Wg)) ∧ MG P ty Wg F (qjb P ty Wg F K) g' (w.setCell (smA Wg) (.int .u32 0)))
def qja (A : Goroutine → World → Prop) (K : Goroutine → World → Prop) (vs : Nat) (g : Goroutine) (w : World) : Prop :=
 g.status = .running ∧ ∀ v : Nat, v < 2147483648 → WgAt ty Wg w (v * KK) 0 →
  (v = vs → ∃ g', stepG P true g w = .go g' (w.setCell (stA Wg) (.int .u64 (v * KK + 1))) #[rd (stA Wg), wr (stA Wg)] ∧ MG P ty Wg F (qam P (.write (smA Wg)) (MG P ty Wg F (qf3 P ty Wg F K))) g' (w.setCell (stA Wg) (.int .u64 (v * KK + 1)))) ∧
  (v ≠ vs → ∃ g', stepG P true g w = .go g' w #[rd (stA Wg)] ∧ MG P ty Wg F A g' w)
def qfw (A : Goroutine → World → Prop) (K : Goroutine → World → Prop) (g : Goroutine) (w : World) : Prop :=
 g.status = .running ∧ ∀ v : Nat, v < 2147483648 → WgAt ty Wg w (v * KK) 0 → ∃ g', stepG P true g w = .go g' w #[rd (stA Wg)] ∧
  (v = 0 → qjc P ty Wg F K g' w) ∧ (v ≠ 0 → MG P ty Wg F (qja P ty Wg F A K v) g' w)
end
def Anch (L : WgLink) (Wg : Nat) (c : Frame) (cs : List Frame) (g : Goroutine) (w : World) : Prop :=
 ∃ T : Array Value, g = G ((base L.wait).at ⟨T, []⟩ [.code (L7 L), .inLoop (L7 L), .inBlock 0]) (c :: cs) ∧ T.size = 84 ∧ T[0]? = some (.pointer (some ⟨Wg, 0, none⟩)) ∧ WgLive L.tWg Wg w
section
variable {P : Program} {Wg : Nat} {F : Blocks} {b₀ : Frame} {a₀ : Act} {ops₀ : Array Oper} {i₀ : Nat} {rest₀ : List Nat} {k₀ : List Item} {cs : List Frame}
theorem add1 (H : WgLib P L) {K : Goroutine → World → Prop} {mT : Nat}
  (hT : ∀ w, WgLive L.tWg Wg w → Goes P true (RM L.tWg Wg F) DC0 K mT (G (b₀.at (a₀.put ((ops₀[i₀]?).bind (·.dst)) (.tuple #[])) (.inRegion ops₀ rest₀ :: k₀)) cs) w)
  (w : World) (hF : WgLive L.tWg Wg w) :
  MG P L.tWg Wg F (qam P .disable (MG P L.tWg Wg F (qe4 P L.tWg Wg F (MG P L.tWg Wg F K))))
   (G ((base L.add).at ⟨#[.pointer (some ⟨Wg, 0, none⟩), .int .i64 1, undef, undef, undef, undef, undef, undef, undef, undef, undef, undef, undef, undef, undef, undef, undef, undef, undef, undef, undef, undef, undef, undef, undef, undef, undef, undef, undef, undef, undef, undef, undef, undef, undef, undef, undef, undef, undef, undef, undef, undef, undef, undef, undef, undef, undef, undef, undef, undef, undef, undef, undef, undef, undef, undef, undef, undef, undef, undef, undef, undef, undef, undef, undef, undef, undef, undef, undef, undef, undef, undef, undef, undef, undef, undef, undef, undef, undef, undef, undef, undef, undef, undef, undef, undef, undef, undef, undef, undef, undef, undef, undef, undef, undef, undef, undef, undef, undef, undef, undef, undef, undef, undef, undef, undef, undef, undef, undef, undef, undef, undef, undef, undef, undef, undef, undef], []⟩ [.code (body_add L)]) (b₀.at a₀ (.inRegion ops₀ (i₀ :: rest₀) :: k₀) :: cs)) w := by
 lib_facts
 simp only [body_add, addFn, Option.getD_some]
 refine ⟨40, ?_⟩
 u_c stepG_seq qa hF
 u_cond true qa hF
 u_c stepG_seq qa hF
 u_c stepG_seq qa hF
 u_reg qa hF
 u_op qa hF
 u_op qa hF
 u_c stepG_region_end qa hF
 u_cond false qa hF
 u_c stepG_skip qa hF
 u_c stepG_seq qa hF
 u_reg qa hF
 refine Goes.stop (fun w1 h1 => ?_)
 replace hF := qa hF h1
 clear h1
 refine ⟨rfl, _, stepG_mark0 .disable (by simp) rfl rfl (by k_ne) rfl H.f_disable (x_disable_n L) (x_disable_b L) (x_disable_x L) (x_disable_f L), 60, ?_⟩
 walk_nrm
 u_c stepG_region_end qa hF
 u_reg qa hF
 u_defer qa hF
 u_c stepG_region_end qa hF
 u_c stepG_seq qa hF
 u_reg qa hF
 u_op qa hF
 u_c stepG_region_end qa hF
 u_c stepG_seq qa hF
 u_c stepG_seq qa hF
 u_reg qa hF
 u_bub qa hF
 u_c stepG_region_end qa hF
 u_cond false qa hF
 u_c stepG_skip qa hF
 u_c stepG_seq qa hF
 u_reg qa hF
 u_op qa hF
 u_op qa hF
 u_op qa hF
 u_op qa hF
 u_op qa hF
 u_op qa hF
 u_call H.f_uAdd (nm_uAdd L) uAddFn qa hF
 u_c stepG_seq qa hF
 u_reg qa hF
 u_op qa hF
 u_c stepG_region_end qa hF
 u_c stepG_seq qa hF
 u_reg qa hF
 u_op qa hF
 u_op qa hF
 u_op qa hF
 u_op qa hF
 refine Goes.stop (fun w2 h2 => ?_)
 replace hF := qa hF h2
 clear h2
 refine ⟨rfl, fun v hv hw => ?_⟩
 rcases Nat.eq_zero_or_pos v with rfl | hvp
 ·replace hw : WgAt L.tWg Wg w2 0 0 := by simpa using hw
  have z : (((0 : Nat) : Int) + 1) * KK = KK := by simp
  rw [z]
  have e0 : IntKind.u64.wrap (0 + 4294967296) = KK := by decide
  refine ⟨_, (stepG_add_atomic rfl rfl (by k_ne) rfl H.f_addU64 (x_addU64_n L) (x_addU64_b L) (x_addU64_x L) .u64 (x_addU64_f L) rfl rfl hw.cellSt (hw.thaw 0)).trans (by rw [e0]; rfl), .inl ⟨rfl, 120, ?_⟩⟩
  replace hF : WgLive L.tWg Wg (w2.setCell (stA Wg) (.int .u64 KK)) := ⟨_, _, hw.setSt _⟩
  clear hw
  simp only [KK] at hF ⊢
  walk_nrm
  u_op qa hF
  u_c stepG_region_end qa hF
  u_c stepG_ret' qa hF
  u_leave1 H.f_uAdd qa hF
  u_op qa hF
  u_c stepG_region_end qa hF
  u_c stepG_seq qa hF
  u_c stepG_seq qa hF
  u_reg qa hF
  u_op qa hF
  u_op qa hF
  u_op qa hF
  u_op qa hF
  u_skip qa hF
  u_skip qa hF
  u_op qa hF
  u_c stepG_region_end qa hF
  u_cond false qa hF
  u_c stepG_skip qa hF
  u_c stepG_seq qa hF
  u_reg qa hF
  u_op qa hF
  u_op qa hF
  u_op qa hF
  u_op qa hF
  u_c stepG_region_end qa hF
  u_c stepG_seq qa hF
  u_reg qa hF
  u_op qa hF
  u_op qa hF
  u_op qa hF
  u_op qa hF
  u_c stepG_region_end qa hF
  u_c stepG_seq qa hF
  u_c stepG_seq qa hF
  u_reg qa hF
  u_op qa hF
  u_op qa hF
  u_op qa hF
  u_op qa hF
  u_op qa hF
  u_op qa hF
  u_op qa hF
  u_op qa hF
  u_op qa hF
  u_op qa hF
  u_c stepG_region_end qa hF
  u_cond true qa hF
  u_reg qa hF
  u_op qa hF
  u_op qa hF
  u_op qa hF
  u_conv H.underlying_tPU32 H.room_tU32 (WgLive.cell1 hF).choose_spec qa hF
  refine Goes.stop (fun w3 h3 => ?_)
  replace hF := qa hF h3
  clear h3
  refine ⟨rfl, _, stepG_markAt .read (by simp) rfl rfl (by k_ne) rfl H.f_raceRead (x_raceRead_n L) (x_raceRead_b L) (x_raceRead_x L) (x_raceRead_f L) (ad := ⟨Wg, 1, none⟩) (by simp [Act.eval]), 120, ?_⟩
  walk_nrm
  u_c stepG_region_end qa hF
  u_c stepG_seq qa hF
  u_c stepG_seq qa hF
  u_reg qa hF
  u_op qa hF
  u_op qa hF
  u_c stepG_region_end qa hF
  u_cond false qa hF
  u_c stepG_skip qa hF
  u_c stepG_seq qa hF
  u_c stepG_seq qa hF
  u_reg qa hF
  u_op qa hF
  u_op qa hF
  u_op qa hF
  u_skip qa hF
  u_skip qa hF
  u_op qa hF
  u_op qa hF
  u_skip qa hF
  u_skip qa hF
  u_skip qa hF
  u_skip qa hF
  u_op qa hF
  u_c stepG_region_end qa hF
  u_cond false qa hF
  u_c stepG_skip qa hF
  u_c stepG_seq qa hF
  u_c stepG_seq qa hF
  u_reg qa hF
  u_op qa hF
  u_op qa hF
  u_op qa hF
  u_skip qa hF
  u_skip qa hF
  u_op qa hF
  u_c stepG_region_end qa hF
  u_cond true qa hF
  u_c stepG_ret' qa hF
  refine Goes.stop (fun wq hq => ?_)
  replace hF := qa hF hq
  clear hq
  refine ⟨rfl, _, stepG_unwind_entry (v := .tuple #[]) (evs := #[mk .enable]) rfl H.f_enable (x_enable_n L) (x_enable_b L) (x_enable_x L) (x_enable_f L) (by simp [Extern.Race.none_]) (by simp [mk]) (by simp [mk]), ?_⟩
  refine ⟨mT + 1, ?_⟩
  exact Goes.step rfl (fun wq hq => by
   refine goes_leave0 rfl rfl H.f_add rfl ⟨by u_nil, ?_⟩
   exact hT _ (qa hF hq))
 ·obtain ⟨V, hV⟩ : ∃ V : Int, V = (v : Int) + 1 := ⟨_, rfl⟩
  obtain ⟨S, hS⟩ : ∃ S : Int, S = V * KK := ⟨_, rfl⟩
  have eS : IntKind.u64.wrap ((v : Int) * KK + 4294967296) = S := by rw [IntKind.wrap_u64, hS, hV]; simp only [KK]; omega
  rw [← hV, ← hS]
  have a1 : S / 4294967296 = V := by rw [hS]; simp only [KK]; omega
  have b1 : bits .and .u64 S 2147483648 = 0 := by rw [hS, hV]; have := st_flag (v + 1) 0 (by omega) (by omega); simpa [KK] using this
  have b2 : bits .and .u64 S 2147483647 = 0 := by rw [hS, hV]; have := st_waiters (v + 1) 0 (by omega) (by omega); simpa [KK] using this
  have c1 : IntKind.i32.wrap V = V := by rw [IntKind.wrap_i32]; omega
  have hV1 : 1 < V := by omega
  have hV2 : V < 2147483648 := by omega
  have q1 : (V == 1) = false := by simp; omega
  have q2 : decide (V = 1) = false := xdf (by omega)
  have q3 : decide (V < 0) = false := xdf (by omega)
  have q4 : decide (0 < V) = true := xdt (by omega)
  have q5 : (V == 0) = false := by simp; omega
  have q6 : decide (V = 0) = false := xdf (by omega)
  refine ⟨_, (stepG_add_atomic rfl rfl (by k_ne) rfl H.f_addU64 (x_addU64_n L) (x_addU64_b L) (x_addU64_x L) .u64 (x_addU64_f L) rfl rfl hw.cellSt (hw.thaw 0)).trans (by rw [eS]; rfl), .inr ⟨by omega, 120, ?_⟩⟩
  replace hF : WgLive L.tWg Wg (w2.setCell (stA Wg) (.int .u64 S)) := ⟨_, _, hw.setSt _⟩
  clear hw hS hV eS
  walk_nrm
  u_op qa hF
  u_c stepG_region_end qa hF
  u_c stepG_ret' qa hF
  u_leave1 H.f_uAdd qa hF
  u_op qa hF
  u_c stepG_region_end qa hF
  u_c stepG_seq qa hF
  u_c stepG_seq qa hF
  u_reg qa hF
  u_op qa hF
  u_op qa hF
  u_op qa hF
  u_op qa hF
  u_skip qa hF
  u_skip qa hF
  u_op qa hF
  u_c stepG_region_end qa hF
  u_cnd false qa hF
  u_c stepG_skip qa hF
  u_c stepG_seq qa hF
  u_reg qa hF
  u_op qa hF
  u_op qa hF
  u_op qa hF
  u_op qa hF
  u_c stepG_region_end qa hF
  u_c stepG_seq qa hF
  u_reg qa hF
  u_op qa hF
  u_op qa hF
  u_op qa hF
  u_op qa hF
  u_c stepG_region_end qa hF
  u_c stepG_seq qa hF
  u_c stepG_seq qa hF
  u_reg qa hF
  u_op qa hF
  u_op qa hF
  u_op qa hF
  u_op qa hF
  u_op qa hF
  u_op qa hF
  u_op qa hF
  u_op qa hF
  u_op qa hF
  u_op qa hF
  u_c stepG_region_end qa hF
  u_cnd false qa hF
  u_c stepG_skip qa hF
  u_c stepG_seq qa hF
  u_c stepG_seq qa hF
  u_reg qa hF
  u_op qa hF
  u_op qa hF
  u_c stepG_region_end qa hF
  u_cnd false qa hF
  u_c stepG_skip qa hF
  u_c stepG_seq qa hF
  u_c stepG_seq qa hF
  u_reg qa hF
  u_op qa hF
  u_op qa hF
  u_op qa hF
  u_skip qa hF
  u_skip qa hF
  u_op qa hF
  u_op qa hF
  u_skip qa hF
  u_skip qa hF
  u_skip qa hF
  u_skip qa hF
  u_op qa hF
  u_c stepG_region_end qa hF
  u_cnd false qa hF
  u_c stepG_skip qa hF
  u_c stepG_seq qa hF
  u_c stepG_seq qa hF
  u_reg qa hF
  u_op qa hF
  u_op qa hF
  u_op qa hF
  u_skip qa hF
  u_skip qa hF
  u_op qa hF
  u_c stepG_region_end qa hF
  u_cnd true qa hF
  u_c stepG_ret' qa hF
  refine Goes.stop (fun wq hq => ?_)
  replace hF := qa hF hq
  clear hq
  refine ⟨rfl, _, stepG_unwind_entry (v := .tuple #[]) (evs := #[mk .enable]) rfl H.f_enable (x_enable_n L) (x_enable_b L) (x_enable_x L) (x_enable_f L) (by simp [Extern.Race.none_]) (by simp [mk]) (by simp [mk]), ?_⟩
  refine ⟨mT + 1, ?_⟩
  exact Goes.step rfl (fun wq hq => by
   refine goes_leave0 rfl rfl H.f_add rfl ⟨by u_nil, ?_⟩
   exact hT _ (qa hF hq))
theorem waitRound (H : WgLib P L) {K : Goroutine → World → Prop} {mT : Nat}
  (hT : ∀ w, WgLive L.tWg Wg w → Goes P true (RM L.tWg Wg F) DC0 K mT (G (b₀.at (a₀.put ((ops₀[i₀]?).bind (·.dst)) (.tuple #[])) (.inRegion ops₀ rest₀ :: k₀)) cs) w)
  (g : Goroutine) (w : World) (h : Anch L Wg (b₀.at a₀ (.inRegion ops₀ (i₀ :: rest₀) :: k₀)) cs g w) :
  MG P L.tWg Wg F (qfw P L.tWg Wg F (Anch L Wg (b₀.at a₀ (.inRegion ops₀ (i₀ :: rest₀) :: k₀)) cs) (MG P L.tWg Wg F K)) g w := by
 lib_facts
 obtain ⟨T, rfl, hT84, t0, hF⟩ := h
 obtain ⟨v0, v1, v2, v3, v4, v5, v6, v7, v8, v9, v10, v11, v12, v13, v14, v15, v16, v17, v18, v19, v20, v21, v22, v23, v24, v25, v26, v27, v28, v29, v30, v31, v32, v33, v34, v35, v36, v37, v38, v39, v40, v41, v42, v43, v44, v45, v46, v47, v48, v49, v50, v51, v52, v53, v54, v55, v56, v57, v58, v59, v60, v61, v62, v63, v64, v65, v66, v67, v68, v69, v70, v71, v72, v73, v74, v75, v76, v77, v78, v79, v80, v81, v82, v83, rfl⟩ := array84 T hT84
 simp only [List.getElem?_toArray, List.getElem?_cons_zero, Option.some.injEq] at t0
 subst t0
 refine ⟨30, ?_⟩
 simp only [L7, body_wait, waitFn, Option.getD_some]
 u_c stepG_block qa hF
 u_c stepG_seq qa hF
 u_reg qa hF
 u_op qa hF
 u_op qa hF
 u_op qa hF
 u_call H.f_uLoad (nm_uLoad L) uLoadFn qa hF
 u_c stepG_seq qa hF
 u_reg qa hF
 u_op qa hF
 u_c stepG_region_end qa hF
 u_c stepG_seq qa hF
 u_reg qa hF
 u_op qa hF
 u_op qa hF
 u_op qa hF
 refine Goes.stop (fun w1 h1 => ?_)
 replace hF := qa hF h1
 clear h1
 refine ⟨rfl, fun v hv hw => ?_⟩
 rcases Nat.eq_zero_or_pos v with rfl | hvp
 ·replace hw : WgAt L.tWg Wg w1 0 0 := by simpa using hw
  refine ⟨_, stepG_load_atomic (v := 0) rfl rfl (by k_ne) rfl H.f_loadU64 (x_loadU64_n L) (x_loadU64_b L) (x_loadU64_x L) .u64 (x_loadU64_f L) rfl hw.cellSt, fun _ => ⟨60, ?_⟩, fun h => absurd rfl h⟩
  clear hw
  walk_nrm
  u_op qa hF
  u_c stepG_region_end qa hF
  u_c stepG_ret' qa hF
  u_leave1 H.f_uLoad qa hF
  u_op qa hF
  u_c stepG_region_end qa hF
  u_c stepG_seq qa hF
  u_reg qa hF
  u_op qa hF
  u_op qa hF
  u_op qa hF
  u_op qa hF
  u_c stepG_region_end qa hF
  u_c stepG_seq qa hF
  u_reg qa hF
  u_op qa hF
  u_op qa hF
  u_op qa hF
  u_op qa hF
  u_c stepG_region_end qa hF
  u_c stepG_seq qa hF
  u_c stepG_seq qa hF
  u_reg qa hF
  u_op qa hF
  u_op qa hF
  u_c stepG_region_end qa hF
  u_cond true qa hF
  u_c stepG_seq qa hF
  u_cond true qa hF
  u_c stepG_seq qa hF
  u_reg qa hF
  refine Goes.stop (fun w5 h5 => ?_)
  replace hF := qa hF h5
  clear h5
  refine ⟨rfl, _, stepG_mark0 .enable (by simp) rfl rfl (by k_ne) rfl H.f_enable (x_enable_n L) (x_enable_b L) (x_enable_x L) (x_enable_f L), 12, ?_⟩
  walk_nrm
  u_c stepG_region_end qa hF
  u_reg qa hF
  u_op qa hF
  u_conv H.underlying_tWgP H.room_tWg (WgLive.cell0 hF).choose_spec qa hF
  refine Goes.stop (fun w6 h6 => ?_)
  replace hF := qa hF h6
  clear h6
  refine ⟨rfl, _, stepG_markAt (.acquire) (by simp) rfl rfl (by k_ne) rfl H.f_acquire (x_acquire_n L) (x_acquire_b L) (x_acquire_x L) (x_acquire_f L) (by simp [Act.eval, stA]), ?_⟩
  refine ⟨mT + 1 + 19, ?_⟩
  walk_nrm
  u_c stepG_region_end qa hF
  u_c stepG_seq qa hF
  u_c stepG_seq qa hF
  u_reg qa hF
  u_op qa hF
  u_op qa hF
  u_op qa hF
  u_op qa hF
  u_op qa hF
  u_op qa hF
  u_op qa hF
  u_op qa hF
  u_skip qa hF
  u_skip qa hF
  u_op qa hF
  u_c stepG_region_end qa hF
  u_cond false qa hF
  u_c stepG_skip qa hF
  u_c stepG_ret' qa hF
  exact Goes.step rfl (fun wq hq => by
   refine goes_leave0 rfl rfl H.f_wait rfl ⟨by u_nil, ?_⟩
   exact hT _ (qa hF hq))
 ·obtain ⟨S, hS⟩ : ∃ S : Int, (v : Int) * KK = S := ⟨_, rfl⟩
  have a1 : S / 4294967296 = (v : Int) := by rw [← hS]; simp only [KK]; omega
  have b1 : bits .and .u64 S 2147483648 = 0 := by rw [← hS]; have := st_flag v 0 (by omega) (by omega); simpa [KK] using this
  have b2 : bits .and .u64 S 2147483647 = 0 := by rw [← hS]; have := st_waiters v 0 (by omega) (by omega); simpa [KK] using this
  have c1 : IntKind.i32.wrap (v : Int) = (v : Int) := by rw [IntKind.wrap_i32]; omega
  have w1' : IntKind.u64.wrap (S + 1) = S + 1 := by rw [IntKind.wrap_u64, ← hS]; simp only [KK]; omega
  have q3 : decide ((v : Int) < 0) = false := xdf (by omega)
  have q4 : decide (0 < (v : Int)) = true := xdt (by omega)
  have q5 : ((v : Int) == 0) = false := by simp; omega
  have q6 : decide ((v : Int) = 0) = false := xdf (by omega)
  rw [hS] at hw
  refine ⟨_, stepG_load_atomic (v := S) rfl rfl (by k_ne) rfl H.f_loadU64 (x_loadU64_n L) (x_loadU64_b L) (x_loadU64_x L) .u64 (x_loadU64_f L) rfl hw.cellSt, fun h0 => absurd h0 (by omega), fun _ => ⟨60, ?_⟩⟩
  clear hw
  walk_nrm
  u_op qa hF
  u_c stepG_region_end qa hF
  u_c stepG_ret' qa hF
  u_leave1 H.f_uLoad qa hF
  u_op qa hF
  u_c stepG_region_end qa hF
  u_c stepG_seq qa hF
  u_reg qa hF
  u_op qa hF
  u_op qa hF
  u_op qa hF
  u_op qa hF
  u_c stepG_region_end qa hF
  u_c stepG_seq qa hF
  u_reg qa hF
  u_op qa hF
  u_op qa hF
  u_op qa hF
  u_op qa hF
  u_c stepG_region_end qa hF
  u_c stepG_seq qa hF
  u_c stepG_seq qa hF
  u_reg qa hF
  u_op qa hF
  u_op qa hF
  u_c stepG_region_end qa hF
  u_cnd false qa hF
  u_c stepG_skip qa hF
  u_c stepG_seq qa hF
  u_reg qa hF
  u_op qa hF
  u_op qa hF
  u_op qa hF
  u_op qa hF
  u_op qa hF
  u_op qa hF
  u_call H.f_uCas (nm_uCas L) uCasFn qa hF
  u_c stepG_seq qa hF
  u_reg qa hF
  u_op qa hF
  u_c stepG_region_end qa hF
  u_c stepG_seq qa hF
  u_reg qa hF
  u_op qa hF
  u_op qa hF
  u_op qa hF
  u_op qa hF
  u_op qa hF
  refine Goes.stop (fun w2 h2 => ?_)
  replace hF := qa hF h2
  clear h2
  refine ⟨rfl, fun v' hv' hw => ⟨fun e => ?_, fun e => ?_⟩⟩
  ·subst e
   rw [hS] at hw ⊢
   refine ⟨_, (stepG_cas_hit (v := S) (n := S + 1) rfl rfl (by k_ne) rfl H.f_casU64 (x_casU64_n L) (x_casU64_b L) (x_casU64_x L) .u64 (x_casU64_f L) rfl rfl rfl hw.cellSt (hw.thaw 0)).trans (by rfl), 40, ?_⟩
   replace hF : WgLive L.tWg Wg (w2.setCell (stA Wg) (.int .u64 (S + 1))) := ⟨_, _, hw.setSt _⟩
   clear hw
   walk_nrm
   u_op qa hF
   u_c stepG_region_end qa hF
   u_c stepG_ret' qa hF
   u_leave1 H.f_uCas qa hF
   u_c stepG_region_end qa hF
   u_cond true qa hF
   u_c stepG_seq qa hF
   u_c stepG_seq qa hF
   u_reg qa hF
   u_op qa hF
   u_op qa hF
   u_op qa hF
   u_op qa hF
   u_c stepG_region_end qa hF
   u_cond true qa hF
   u_reg qa hF
   u_op qa hF
   u_op qa hF
   u_op qa hF
   u_conv H.underlying_tPU32 H.room_tU32 (WgLive.cell1 hF).choose_spec qa hF
   refine Goes.stop (fun w3 h3 => ?_)
   replace hF := qa hF h3
   clear h3
   refine ⟨rfl, _, stepG_markAt .write (by simp) rfl rfl (by k_ne) rfl H.f_raceWrite (x_raceWrite_n L) (x_raceWrite_b L) (x_raceWrite_x L) (x_raceWrite_f L) (ad := ⟨Wg, 1, none⟩) (by simp [Act.eval]), 40, ?_⟩
   walk_nrm
   u_c stepG_region_end qa hF
   u_c stepG_seq qa hF
   u_reg qa hF
   u_op qa hF
   u_c stepG_region_end qa hF
   u_c stepG_seq qa hF
   u_c stepG_seq qa hF
   u_reg qa hF
   u_op qa hF
   u_op qa hF
   u_op qa hF
   u_op qa hF
   u_skip qa hF
   u_op qa hF
   u_c stepG_region_end qa hF
   u_cond false qa hF
   u_c stepG_skip qa hF
   u_c stepG_seq qa hF
   u_reg qa hF
   u_op qa hF
   u_op qa hF
   u_op qa hF
   u_op qa hF
   refine Goes.stop (fun w4 h4 => ?_)
   replace hF := qa hF h4
   clear h4
   refine ⟨rfl, rfl, fun ⟨st, hw⟩ => stepG_semacquire_wait rfl rfl rfl H.f_semacquire (x_semacquire_n L) (x_semacquire_b L) (x_semacquire_x L) (x_semacquire_f L) (by simp [Act.eval, smA]) hw.cellSm, fun hf => ?_⟩
   refine ⟨_, (stepG_semacquire (n := 1) rfl rfl (by k_ne) rfl H.f_semacquire (x_semacquire_n L) (x_semacquire_b L) (x_semacquire_x L) (x_semacquire_f L) (by simp [Act.eval, smA]) hf.cellSm (by k_ne) (hf.thaw 1)).trans (by rfl), 40, ?_⟩
   replace hF : WgLive L.tWg Wg (w4.setCell (smA Wg) (.int .u32 0)) := ⟨_, _, hf.setSm 0⟩
   clear hf
   walk_nrm
   u_c stepG_region_end qa hF
   u_c stepG_seq qa hF
   u_reg qa hF
   u_op qa hF
   u_op qa hF
   u_op qa hF
   u_call H.f_uLoad (nm_uLoad L) uLoadFn qa hF
   u_c stepG_seq qa hF
   u_reg qa hF
   u_op qa hF
   u_c stepG_region_end qa hF
   u_c stepG_seq qa hF
   u_reg qa hF
   u_op qa hF
   u_op qa hF
   u_op qa hF
   refine Goes.stop (fun w7 h7 => ?_)
   replace hF := qa hF h7
   clear h7
   refine ⟨rfl, fun hw => ⟨_, stepG_load_atomic (v := 0) rfl rfl (by k_ne) rfl H.f_loadU64 (x_loadU64_n L) (x_loadU64_b L) (x_loadU64_x L) .u64 (x_loadU64_f L) rfl hw.cellSt, 40, ?_⟩⟩
   clear hw
   walk_nrm
   u_op qa hF
   u_c stepG_region_end qa hF
   u_c stepG_ret' qa hF
   u_leave1 H.f_uLoad qa hF
   u_op qa hF
   u_op qa hF
   u_c stepG_region_end qa hF
   u_c stepG_seq qa hF
   u_cond true qa hF
   u_c stepG_seq qa hF
   u_reg qa hF
   refine Goes.stop (fun w5 h5 => ?_)
   replace hF := qa hF h5
   clear h5
   refine ⟨rfl, _, stepG_mark0 .enable (by simp) rfl rfl (by k_ne) rfl H.f_enable (x_enable_n L) (x_enable_b L) (x_enable_x L) (x_enable_f L), 12, ?_⟩
   walk_nrm
   u_c stepG_region_end qa hF
   u_reg qa hF
   u_op qa hF
   u_conv H.underlying_tWgP H.room_tWg (WgLive.cell0 hF).choose_spec qa hF
   refine Goes.stop (fun w6 h6 => ?_)
   replace hF := qa hF h6
   clear h6
   refine ⟨rfl, _, stepG_markAt (.acquire) (by simp) rfl rfl (by k_ne) rfl H.f_acquire (x_acquire_n L) (x_acquire_b L) (x_acquire_x L) (x_acquire_f L) (by simp [Act.eval, stA]), ?_⟩
   refine ⟨mT + 1 + 9, ?_⟩
   walk_nrm
   u_c stepG_region_end qa hF
   u_c stepG_seq qa hF
   u_c stepG_seq qa hF
   u_reg qa hF
   u_op qa hF
   u_c stepG_region_end qa hF
   u_cond false qa hF
   u_c stepG_skip qa hF
   u_c stepG_ret' qa hF
   exact Goes.step rfl (fun wq hq => by
    refine goes_leave0 rfl rfl H.f_wait rfl ⟨by u_nil, ?_⟩
    exact hT _ (qa hF hq))
  ·refine ⟨_, stepG_cas_miss (v := (v' : Int) * KK) (old := S) (n := S + 1) rfl rfl (by k_ne) rfl H.f_casU64 (x_casU64_n L) (x_casU64_b L) (x_casU64_x L) .u64 (x_casU64_f L) rfl rfl rfl hw.cellSt (hw.thaw 0) (by rw [← hS]; simp only [KK]; omega), 20, ?_⟩
   clear hw
   walk_nrm
   u_op qa hF
   u_c stepG_region_end qa hF
   u_c stepG_ret' qa hF
   u_leave1 H.f_uCas qa hF
   u_c stepG_region_end qa hF
   u_cond false qa hF
   u_c stepG_skip qa hF
   u_c stepG_inBlock qa hF
   u_c stepG_inLoop qa hF
   refine Goes.stop (fun w3 h3 => ?_)
   replace hF := qa hF h3
   exact ⟨_, rfl, by simp, by simp, hF⟩
theorem waitStart (H : WgLib P L) {c : Frame} (w : World) (hF : WgLive L.tWg Wg w) :
  MG P L.tWg Wg F (qam P .disable (MG P L.tWg Wg F (Anch L Wg c cs))) (G ((base L.wait).at ⟨#[.pointer (some ⟨Wg, 0, none⟩), undef, undef, undef, undef, undef, undef, undef, undef, undef, undef, undef, undef, undef, undef, undef, undef, undef, undef, undef, undef, undef, undef, undef, undef, undef, undef, undef, undef, undef, undef, undef, undef, undef, undef, undef, undef, undef, undef, undef, undef, undef, undef, undef, undef, undef, undef, undef, undef, undef, undef, undef, undef, undef, undef, undef, undef, undef, undef, undef, undef, undef, undef, undef, undef, undef, undef, undef, undef, undef, undef, undef, undef, undef, undef, undef, undef, undef, undef, undef, undef, undef, undef, undef], []⟩ [.code (body_wait L)]) (c :: cs)) w := by
 lib_facts
 simp only [body_wait, waitFn, Option.getD_some]
 refine ⟨6, ?_⟩
 u_c stepG_seq qa hF
 u_cond true qa hF
 u_reg qa hF
 refine Goes.stop (fun w1 h1 => ?_)
 replace hF := qa hF h1
 clear h1
 refine ⟨rfl, _, stepG_mark0 .disable (by simp) rfl rfl (by k_ne) rfl H.f_disable (x_disable_n L) (x_disable_b L) (x_disable_x L) (x_disable_f L), 6, ?_⟩
 walk_nrm
 u_c stepG_region_end qa hF
 u_c stepG_block qa hF
 u_c stepG_loop qa hF
 exact Goes.stop (fun w2 h2 => ⟨_, rfl, by simp, by simp, qa hF h2⟩)
end
end
end
section
open Go Go.Conc Go.ConcN Sim
def qb4 (t : Trace) (l : Loc) : Prop := ∀ i a, touchAt t i = some a → a.loc ≠ l
theorem qb4.perm {t : Trace} {l : Loc} (h : qb4 t l) (g : Nat) : Perm t g l := fun i a ha e => (h i a ha e).elim
theorem qb4.jbi {t : Trace} {l : Loc} (h : qb4 t l) (g : Nat) : PermW t g l := fun i a ha e _ => (h i a ha e).elim
section
variable {Sh : Loc → Prop} {Own Rd Own' Rd' : Nat → Loc → Prop} {t : Trace} {j : Nat}
theorem CT.grow (h : CT Sh Own Rd t j) (ho : ∀ k l, Own' k l → Own k l ∨ qb4 t l) (hr : ∀ k l, Rd' k l → Rd k l ∨ qb4 t l)
  (so : ∀ k l, Own k l → Own' k l) (sr : ∀ k l, Rd k l → Rd' k l) : CT Sh Own' Rd' t j :=
 ⟨h.quiet, fun k k1 kj l hl => (ho k l hl).elim (h.own k k1 kj l) (fun f => f.perm k), fun k k1 kj l hl => (hr k l hl).elim (h.rd k k1 kj l) (fun f => f.jbi k),
  fun l hs hl => h.free l hs fun k k1 kj => ⟨fun x => (hl k k1 kj).1 (so k l x), fun x => (hl k k1 kj).2 (sr k l x)⟩, fun l hs hl => h.mine l hs fun k k1 kj x => hl k k1 kj (so k l x), h.nr, h.gs⟩
end
theorem qjz {t : Trace} {B : Nat} (h : ∀ op ∈ t, qea B op.act) {a : Addr} (ha : B ≤ a.block) : qb4 t (.cell a) := by
 intro i x hx e
 obtain ⟨op, hop, hox⟩ := touch_of hx
 have hl := h op (mem_of_getElem? hop) x hox
 rw [e] at hl
 exact Nat.lt_irrefl _ (xll hl ha)
end
section
open Go Go.Conc Go.ConcN Sim
open Go.ConcR (KK WgAt stA smA rd wr mk Payload DC0)
def qes (B : Blocks) : Loc → Prop
 | .cell a => B a.block
 | .obj r => B r
 |_ => False
def qck : Nat → Loc → Prop := fun _ _ => False
section
variable [Payload] (P : Program) (ty : TypeId) (Wg C n : Nat)
def qfh (jb : Nat → Blocks → Value → World → Prop) (i : Nat) (F _O : Blocks) (g : Goroutine) (w : World) : Prop :=
 g.status = .running ∧ ∃ v, jb i F v w ∧ ∀ w1, Ext F w w1 → PayAt C n w1 → WgLive ty Wg w1 →
  ∃ g', stepG P false g w1 = .go g' (w1.setCell ⟨C, i, none⟩ v) #[⟨.cell ⟨C, i, none⟩, true, false⟩] ∧
   ∃ m, Goes P false (RW ty Wg C n 0 i) (DWs Wg qck qck C n (i + 1)) (AtR0 P ty Wg C n 0 (i + 1) v) m g' (w1.setCell ⟨C, i, none⟩ v)
def Script (jb : Nat → Blocks → Value → World → Prop) (i : Nat) (F0 : Blocks) (g : Goroutine) (w : World) : Prop :=
 ∃ F, (∀ b, F b → F0 b) ∧ WG P false (qfh P ty Wg C n jb i) F (fun _ => False) g w
def AtGoM (jb : Nat → Blocks → Value → World → Prop) (i : Nat) (F : Blocks) (Next : Goroutine → World → Prop) (g : Goroutine) (w : World) : Prop :=
 g.status = .running ∧ ∃ g' child, stepG P true g w = .spawn g' child w #[] ∧ child.status = .running ∧ (PayAt C n w → Script P ty Wg C n jb i F child w) ∧ Next g' w
def Scr (jb : Nat → Blocks → Value → World → Prop) (K : Goroutine → World → Prop) : Nat → Blocks → Blocks → Goroutine → World → Prop
 |0, F, _, g, w => g.status = .running ∧ (WgLive ty Wg w → ∃ A : Goroutine → World → Prop, (∀ g w, A g w → g.status = .running) ∧ (∀ g w, A g w → MG P ty Wg F (qfw P ty Wg F A K) g w) ∧ MG P ty Wg F (qam P .disable (MG P ty Wg F A)) g w)
 |r + 1, F, _, g, w => g.status = .running ∧ (WgLive ty Wg w → MG P ty Wg F (qam P .disable (MG P ty Wg F (qe4 P ty Wg F (MG P ty Wg F (AtGoM P ty Wg C n jb (n - (r + 1)) F fun g' w => WG P true (Scr jb K r) F (fun _ => False) g' w))))) g w)
end
structure WX where
 stage : Nat
 fuel : Nat
 deaf : Nat
 rank : Rank
 F : Blocks
 O : Blocks
 val : Value
section
variable [Payload] (P : Program) (ty : TypeId) (Wg C n : Nat) (jb : Nat → Blocks → Value → World → Prop)
inductive WS (i : Nat) (d : WX) (g : Goroutine) (w : World) : Prop
 |own : d.stage = 9 → d.deaf = 0 → d.fuel = 0 → WGo P false (qfh P ty Wg C n jb i) d.rank d.F d.O g w → WS i d g w
 |lib : WSit P ty Wg C n qck qck 0 (i + 1) d.val d.stage d.fuel d.deaf g w → jb i d.F d.val w → WS i d g w
inductive Tag where
 |wg (r : Nat) | kdS (r : Nat) | ad (r : Nat) | rs (r : Nat) | en (r : Nat) | gos (r : Nat)
 |kd | anch | ld | cs (vs : Nat) | ws | sm | blk | l2 | en2 | acq
inductive MS (K : Goroutine → World → Prop) : Tag → Nat → Nat → Rank → Blocks → Blocks → Goroutine → World → Prop
 |wg {r : Nat} {rk : Rank} {F O : Blocks} {g : Goroutine} {w : World} : r ≤ n → WGo P true (Scr P ty Wg C n jb K r) rk F O g w → MS K (.wg r) 0 0 rk F O g w
 |kdS {r f : Nat} {F : Blocks} {g : Goroutine} {w : World} : r < n → Goes P true (RM ty Wg F) DC0 (qam P .disable (MG P ty Wg F (qe4 P ty Wg F (MG P ty Wg F (AtGoM P ty Wg C n jb (n - (r + 1)) F fun g' w => WG P true (Scr P ty Wg C n jb K r) F (fun _ => False) g' w))))) f g w → MS K (.kdS r) f 0 .leaf F (fun _ => False) g w
 |ad {r f : Nat} {F : Blocks} {g : Goroutine} {w : World} : r < n → Goes P true (RM ty Wg F) DC0 (qe4 P ty Wg F (MG P ty Wg F (AtGoM P ty Wg C n jb (n - (r + 1)) F fun g' w => WG P true (Scr P ty Wg C n jb K r) F (fun _ => False) g' w))) f g w → MS K (.ad r) f 1 .leaf F (fun _ => False) g w
 |rs {r f : Nat} {F : Blocks} {g : Goroutine} {w : World} : r < n → Goes P true (RM ty Wg F) DC0 (qam P (.read (smA Wg)) (MG P ty Wg F (qam P .enable (MG P ty Wg F (AtGoM P ty Wg C n jb (n - (r + 1)) F fun g' w => WG P true (Scr P ty Wg C n jb K r) F (fun _ => False) g' w))))) f g w → MS K (.rs r) f 1 .leaf F (fun _ => False) g w
 |en {r f : Nat} {F : Blocks} {g : Goroutine} {w : World} : r < n → Goes P true (RM ty Wg F) DC0 (qam P .enable (MG P ty Wg F (AtGoM P ty Wg C n jb (n - (r + 1)) F fun g' w => WG P true (Scr P ty Wg C n jb K r) F (fun _ => False) g' w))) f g w → MS K (.en r) f 1 .leaf F (fun _ => False) g w
 |gos {r f : Nat} {F : Blocks} {g : Goroutine} {w : World} : r < n → Goes P true (RM ty Wg F) DC0 (AtGoM P ty Wg C n jb (n - (r + 1)) F fun g' w => WG P true (Scr P ty Wg C n jb K r) F (fun _ => False) g' w) f g w → MS K (.gos r) f 0 .leaf F (fun _ => False) g w
 |kd {f : Nat} {F : Blocks} {A : Goroutine → World → Prop} {g : Goroutine} {w : World} : (∀ g w, A g w → g.status = .running) → (∀ g w, A g w → MG P ty Wg F (qfw P ty Wg F A K) g w) → Goes P true (RM ty Wg F) DC0 (qam P .disable (MG P ty Wg F A)) f g w → MS K .kd f 0 .leaf F (fun _ => False) g w
 |anch {f : Nat} {F : Blocks} {A : Goroutine → World → Prop} {g : Goroutine} {w : World} : (∀ g w, A g w → g.status = .running) → (∀ g w, A g w → MG P ty Wg F (qfw P ty Wg F A K) g w) → Goes P true (RM ty Wg F) DC0 A f g w → MS K .anch f 1 .leaf F (fun _ => False) g w
 |ld {f : Nat} {F : Blocks} {A : Goroutine → World → Prop} {g : Goroutine} {w : World} : (∀ g w, A g w → g.status = .running) → (∀ g w, A g w → MG P ty Wg F (qfw P ty Wg F A K) g w) → Goes P true (RM ty Wg F) DC0 (qfw P ty Wg F A K) f g w → MS K .ld f 1 .leaf F (fun _ => False) g w
 |cs {vs f : Nat} {F : Blocks} {A : Goroutine → World → Prop} {g : Goroutine} {w : World} : (∀ g w, A g w → g.status = .running) → (∀ g w, A g w → MG P ty Wg F (qfw P ty Wg F A K) g w) → Goes P true (RM ty Wg F) DC0 (qja P ty Wg F A K vs) f g w → MS K (.cs vs) f 1 .leaf F (fun _ => False) g w
 |ws {f : Nat} {F : Blocks} {g : Goroutine} {w : World} : Goes P true (RM ty Wg F) DC0 (qam P (.write (smA Wg)) (MG P ty Wg F (qf3 P ty Wg F K))) f g w → MS K .ws f 1 .leaf F (fun _ => False) g w
 |sm {f : Nat} {F : Blocks} {g : Goroutine} {w : World} : Goes P true (RM ty Wg F) DC0 (qf3 P ty Wg F K) f g w → MS K .sm (f + 1) 1 .leaf F (fun _ => False) g w
 |blk {F : Blocks} {g : Goroutine} {w : World} : (∀ w1, RM ty Wg F w w1 → qf3 P ty Wg F K g w1) → MS K .blk 0 1 .leaf F (fun _ => False) { g with status := .blocked } w
 |l2 {f : Nat} {F : Blocks} {g : Goroutine} {w : World} : Goes P true (RM ty Wg F) DC0 (qjb P ty Wg F K) f g w → MS K .l2 f 1 .leaf F (fun _ => False) g w
 |en2 {f : Nat} {F : Blocks} {g : Goroutine} {w : World} : Goes P true (RM ty Wg F) DC0 (qam P .enable (MG P ty Wg F (qam P (.acquire (stA Wg)) K))) f g w → MS K .en2 f 1 .leaf F (fun _ => False) g w
 |acq {f : Nat} {F : Blocks} {g : Goroutine} {w : World} : Goes P true (RM ty Wg F) DC0 (qam P (.acquire (stA Wg)) K) f g w → MS K .acq f 0 .leaf F (fun _ => False) g w
end
section
variable [Payload]
section
variable {P : Program} {ty : TypeId} {Wg C n : Nat} {jb : Nat → Blocks → Value → World → Prop} {K : Goroutine → World → Prop} {tag : Tag} {f d : Nat} {rk : Rank} {F O : Blocks} {a : Goroutine} {w w1 : World}
omit [Payload] in
theorem jl (w : World) : RM ty Wg F w w := ⟨Ext.refl .., id⟩
theorem MS.rely (h : MS P ty Wg C n jb K tag f d rk F O a w) (r : RM ty Wg F w w1) : MS P ty Wg C n jb K tag f d rk F O a w1 := by
 cases h with
 |wg h0 h => exact .wg h0 (h.ext r.ext)
 |kdS h0 h => exact .kdS h0 (h.rely yc r)
 |ad h0 h => exact .ad h0 (h.rely yc r)
 |rs h0 h => exact .rs h0 (h.rely yc r)
 |en h0 h => exact .en h0 (h.rely yc r)
 |gos h0 h => exact .gos h0 (h.rely yc r)
 |kd h0 h1 h => exact .kd h0 h1 (h.rely yc r)
 |anch h0 h1 h => exact .anch h0 h1 (h.rely yc r)
 |ld h0 h1 h => exact .ld h0 h1 (h.rely yc r)
 |cs h0 h1 h => exact .cs h0 h1 (h.rely yc r)
 |ws h => exact .ws (h.rely yc r)
 |sm h => exact .sm (h.rely yc r)
 |blk h => exact .blk fun w2 r2 => h w2 (yc _ _ _ r r2)
 |l2 h => exact .l2 (h.rely yc r)
 |en2 h => exact .en2 (h.rely yc r)
 |acq h => exact .acq (h.rely yc r)
omit [Payload] in
theorem qbn {Stop : Goroutine → World → Prop} (hs : ∀ g w, Stop g w → g.status = .running) {n : Nat} {g : Goroutine} {w : World} (h : Goes P true (RM ty Wg F) DC0 Stop n g w) : g.status = .running :=
 h.running hs w (jl w)
theorem q2n : ∀ (r : Nat) (F O : Blocks) (g : Goroutine) (w : World), Scr P ty Wg C n jb K r F O g w → g.status = .running := by
 intro r F O g w h
 cases r with
 |zero => exact h.1
 |succ r => exact h.1
omit [Payload] in
theorem qnj {main : Bool} {Stop : Blocks → Blocks → Goroutine → World → Prop} (hs : ∀ F O g w, Stop F O g w → g.status = .running) {r : Rank} {g : Goroutine} (h : WGo P main Stop r F O g w) : g.status = .running := by
 cases r with
 |leaf => exact hs _ _ _ _ (h w (Ext.refl ..))
 |node f => exact h.1
theorem MS.status (h : MS P ty Wg C n jb K tag f d rk F O a w) : (a.status = .running ∧ tag ≠ .blk) ∨ (a.status = .blocked ∧ tag = .blk) := by
 cases h with
 |wg h0 h => exact .inl ⟨qnj (fun F O g w x => q2n _ F O g w x) h, by simp⟩
 |kdS h0 h => exact .inl ⟨qbn (fun _ _ x => x.1) h, by simp⟩
 |ad h0 h => exact .inl ⟨qbn (fun _ _ x => x.1) h, by simp⟩
 |rs h0 h => exact .inl ⟨qbn (fun _ _ x => x.1) h, by simp⟩
 |en h0 h => exact .inl ⟨qbn (fun _ _ x => x.1) h, by simp⟩
 |gos h0 h => exact .inl ⟨qbn (fun _ _ x => x.1) h, by simp⟩
 |kd h0 h1 h => exact .inl ⟨qbn (fun _ _ x => x.1) h, by simp⟩
 |anch h0 h1 h => exact .inl ⟨qbn h0 h, by simp⟩
 |ld h0 h1 h => exact .inl ⟨qbn (fun _ _ x => x.1) h, by simp⟩
 |cs h0 h1 h => exact .inl ⟨qbn (fun _ _ x => x.1) h, by simp⟩
 |ws h => exact .inl ⟨qbn (fun _ _ x => x.1) h, by simp⟩
 |sm h => exact .inl ⟨qbn (fun _ _ x => x.1) h, by simp⟩
 |blk h => exact .inr ⟨rfl, rfl⟩
 |l2 h => exact .inl ⟨qbn (fun _ _ x => x.1) h, by simp⟩
 |en2 h => exact .inl ⟨qbn (fun _ _ x => x.1) h, by simp⟩
 |acq h => exact .inl ⟨qbn (fun _ _ x => x.1) h, by simp⟩
theorem MS.wokenBy (h : MS P ty Wg C n jb K tag f d rk F O a w) (r : RM ty Wg F w w1) (g g' : Goroutine) :
  ∃ tag' f', MS P ty Wg C n jb K tag' f' d rk F O (woken P g g' w1 a) w1 ∧ f' ≤ f + 1 ∧ (tag' = tag ∨ (tag = .blk ∧ tag' = .sm)) ∧ (mayWake P g = true → g'.status = .running → tag' ≠ .blk) := by
 have h' := h.rely r
 unfold Go.Conc.woken
 split
 ·rcases h'.status with ⟨hs, hne⟩ | ⟨_, rfl⟩
  ·exact ⟨tag, f, by rw [again_running _ (.inl hs)]; exact h', by omega, .inl rfl, fun _ _ => hne⟩
  ·cases h' with
   |blk hb =>
    have h3 := hb w1 (jl w1)
    exact ⟨.sm, 0 + 1, by rw [Go.ConcR.again_blocked h3.1 h3.2.1]; exact .sm (Goes.stop hb), by omega, .inr ⟨rfl, rfl⟩, fun _ _ => by simp⟩
 ·rename_i hc
  exact ⟨tag, f, h', by omega, .inl rfl, fun h1 h2 => absurd (by simp [h1, h2]) hc⟩
end
def xd (D : Nat → WX) : Nat → WD := fun i => ⟨if (D i).stage = 9 then 7 else (D i).stage, (D i).fuel, (D i).deaf⟩
def qak : Tag → Nat
 | .rs _ | .en _ | .gos _ => 1
 |_ => 0
def qi2 : Tag → Prop
 | .wg _ | .kdS _ | .ad _ | .rs _ | .en _ | .gos _ | .kd | .anch | .ld | .cs _ => True
 |_ => False
def qxi : Tag → Prop
 | .ws | .sm | .blk => True
 |_ => False
def qxh : Tag → Prop
 | .l2 | .en2 | .acq => True
 |_ => False
inductive Mo (j : Nat) (D : Nat → WD) : Tag → Int → Int → Prop
 |opn {tag : Tag} : qi2 tag → OpenSt j D → (∀ vs, tag = .cs vs → Vc j D ≤ vs ∧ 1 ≤ vs) → Mo j D tag (((Vc j D + qak tag : Nat) : Int) * KK) 0
 |reg {tag : Tag} : qxi tag → OpenSt j D → 1 ≤ Vc j D → Mo j D tag (((Vc j D : Nat) : Int) * KK + 1) 0
 |last {tag : Tag} (L : Nat) : qxi tag → L < j → ((D L).stage = 4 ∨ (D L).stage = 3 ∨ (D L).stage = 2) → (∀ i, i < j → i ≠ L → (D i).stage = 1) → Mo j D tag (if (D L).stage = 2 then 0 else 1) 0
 |sema {tag : Tag} : (tag = .ws ∨ tag = .sm) → AllQuit j D → Mo j D tag 0 1
 |fin {tag : Tag} : qxh tag → AllQuit j D → Mo j D tag 0 0
def psi (n v : Nat) : Tag → Nat
 | .wg r => 8 * n + 20 + 32 * r
 | .kdS r => 8 * n + 20 + 32 * r + 24
 | .ad r => 8 * n + 20 + 32 * r + 23
 | .rs r => 8 * n + 20 + 32 * r + 22
 | .en r => 8 * n + 20 + 32 * r + 21
 | .gos r => 8 * n + 20 + 32 * r + 20
 | .kd => 8 * n + 12
 | .anch => 8 * v + 8
 | .ld => 8 * v + 7
 | .cs vs => 8 * vs + 6
 | .ws => 5
 | .sm => 4
 | .blk => 4
 | .l2 => 3
 | .en2 => 2
 | .acq => 1
end
end
section
open Go Go.Conc Go.ConcN Sim
open Go.ConcR (KK WgAt stA smA rd wr mk Payload DC0 g_of_ofEvents)
section
variable [Payload]
section
variable (o Wg C : Nat) (SB : Blocks)
def ShP : Loc → Prop := ShB fun b => SB b ∨ b = Wg
def qgf (j : Nat) (D : Nat → WX) (k : Nat) (l : Loc) : Prop := ∃ i, i < j ∧ k = o + i ∧ (qes (D i).O l ∨ l = .cell ⟨C, i, none⟩)
def RdD (j : Nat) (D : Nat → WX) (k : Nat) (l : Loc) : Prop := ∃ i, i < j ∧ k = o + i ∧ qes (fun b => (D i).F b ∧ ¬ (D i).O b) l
structure Sep (j : Nat) (D : Nat → WX) (FM OM : Blocks) (w : World) : Prop where
 wF : ∀ i, i < j → ∀ b, (D i).F b → b < w.heap.size ∧ b ≠ Wg ∧ b ≠ C ∧ ¬ SB b
 wO : ∀ i, i < j → ∀ b, (D i).O b → (D i).F b
 apart : ∀ i i', i < j → i' < j → i ≠ i' → ∀ b, (D i).O b → ¬ (D i').F b
 mF : ∀ b, FM b → b < w.heap.size ∧ b ≠ Wg ∧ b ≠ C ∧ ¬ SB b ∧ ∀ i, i < j → ¬ (D i).O b
 mO : ∀ b, OM b → FM b ∧ ∀ i, i < j → ¬ (D i).F b
 lW : Wg < w.heap.size
 lC : C < w.heap.size
 lS : ∀ b, SB b → b < w.heap.size
 hCW : C ≠ Wg
 sW : ¬ SB Wg
 sC : ¬ SB C
end
def qry (o : Nat) (a : Addr) (t : Trace) : Prop := ∃ p, p ≤ t.size ∧ (∀ i g, i < p → t.g? i = some g → g < o) ∧ ∀ i, p ≤ i → t.act? i ≠ some (.mark (.release a))
omit [Payload] in
theorem qry.app {o : Nat} {a : Addr} {t u : Trace} (h : qry o a t) (hu : ∀ op ∈ u, op.act ≠ .mark (.release a)) : qry o a (t ++ u) := by
 obtain ⟨p, h0, h1, h2⟩ := h
 refine ⟨p, by simp; omega, fun i g hi hg => h1 i g hi (by rw [← g?_old (u := u) (by omega)]; exact hg), fun i hi he => ?_⟩
 obtain ⟨op, ho, hoa⟩ := Option.map_eq_some_iff.1 he
 rcases getElem?_append_cases ho with ⟨_, ho'⟩ | ⟨_, hou⟩
 ·exact h2 i hi (by rw [act?_of ho', hoa])
 ·exact hu op hou hoa
section
variable (P : Program) (ty : TypeId) (o Wg C n : Nat) (SB : Blocks) (jb : Nat → Blocks → Value → World → Prop)
structure qmq (j : Nat) (D : Nat → WX) (w : World) (t : Trace) : Prop where
 ct : CT (ShP Wg SB) (qgf o C j D) (RdD o j D) t (o - 1 + j)
 norel : qry o (stA Wg) t
 hand : ∀ i g, t.g? i = some g → g ≠ 0 → g < o → t.counts i → ∃ q, t.g? q = some 0 ∧ HappensBefore t i q
 known : ∀ i a, touchAt t i = some a → Knows t 0 i ∨ (ShP Wg SB a.loc ∧ a.kind = .atomic) ∨ ∃ g, t.g? i = some g ∧ o ≤ g ∧ a.kind ≠ .atomic
 mem : ∀ i a, touchAt t i = some a → a.loc.isMemory = true
 seen : ∀ op ∈ t, qea w.heap.size op.act
structure kz (j : Nat) (gs : Array Goroutine) (w : World) (t : Trace) (D : Nat → WX) (q : Nat → Nat) (d0 : Nat) : Prop where
 size : gs.size = o + j
 old : ∀ i g, 0 < i → i < o → gs[i]? = some g → QuitsD P (q i) (Deaf t i) g
 wk : ∀ i, i < j → ∃ g, gs[o + i]? = some g ∧ WS P ty Wg C n jb i (D i) g w
 tr : qmq o Wg C SB j D w t
 deaf0 : Deaf t 0 = d0
 deafW : ∀ i, i < j → Deaf t (o + i) = (D i).deaf
 above : ∀ k, o + j ≤ k → Deaf t k = 0
 rel : ∀ i, i < j → (D i).stage ≤ 6 → ∃ r, RelBy (stA Wg) t (o + i) r
 has : ∀ i, i < j → (D i).stage ≤ 6 → Has C i (D i).val w
 pay : PayAt C n w
 qke : 0 < o
end
section
variable {P : Program} {ty : TypeId} {o Wg C n : Nat} {SB : Blocks} {jb : Nat → Blocks → Value → World → Prop} {j : Nat} {gs : Array Goroutine} {w w' : World} {t : Trace} {D : Nat → WX} {q : Nat → Nat} {d0 : Nat} {FM OM : Blocks}
omit [Payload] in
theorem Sep.own (h : Sep Wg C SB j D FM OM w) : Apart (ShP Wg SB) (qgf o C j D) (RdD o j D) := by
 have inF : ∀ {B : Blocks} {l : Loc}, qes B l → ∃ b, B b ∧ ((∃ a, l = .cell a ∧ a.block = b) ∨ l = .obj b) := by
  intro B l hl
  cases l with
  |cell a => exact ⟨_, hl, .inl ⟨a, rfl, rfl⟩⟩
  |obj r => exact ⟨_, hl, .inr rfl⟩
  |_ => exact hl.elim
 have same : ∀ {b b' : Nat} {l : Loc}, ((∃ a : Addr, l = .cell a ∧ a.block = b) ∨ l = .obj b) → ((∃ a : Addr, l = .cell a ∧ a.block = b') ∨ l = .obj b') → b = b' := by
  intro b b' l h1 h2
  rcases h1 with ⟨a, rfl, rfl⟩ | rfl
  ·rcases h2 with ⟨a', e, rfl⟩ | e
   ·cases e; rfl
   ·cases e
  ·rcases h2 with ⟨a', e, rfl⟩ | e
   ·cases e
   ·cases e; rfl
 have cellC : ∀ {b i : Nat} {l : Loc}, l = .cell ⟨C, i, none⟩ → ((∃ a : Addr, l = .cell a ∧ a.block = b) ∨ l = .obj b) → b = C := by
  intro b i l e h1
  subst e
  rcases h1 with ⟨a, e, rfl⟩ | e
  ·cases e; rfl
  ·cases e
 have shb : ∀ {l : Loc} {b : Nat}, ShP Wg SB l → ((∃ a : Addr, l = .cell a ∧ a.block = b) ∨ l = .obj b) → SB b ∨ b = Wg := by
  rintro l b ⟨a, rfl, hs⟩ h1
  rcases h1 with ⟨a', e, rfl⟩ | e
  ·cases e; exact hs
  ·cases e
 refine ⟨?_, ?_, ?_, ?_⟩
 ·rintro k k' l ⟨i, hi, rfl, h1⟩ ⟨i', hi', rfl, h2⟩
  by_cases e : i = i'
  ·rw [e]
  ·exfalso
   rcases h1 with h1 | h1 <;> rcases h2 with h2 | h2
   ·obtain ⟨b, hb, hl⟩ := inF h1
    obtain ⟨b', hb', hl'⟩ := inF h2
    obtain rfl := same hl hl'
    exact h.apart i i' hi hi' e b hb (h.wO i' hi' b hb')
   ·obtain ⟨b, hb, hl⟩ := inF h1
    exact (h.wF i hi b (h.wO i hi b hb)).2.2.1 (cellC h2 hl)
   ·obtain ⟨b, hb, hl⟩ := inF h2
    exact (h.wF i' hi' b (h.wO i' hi' b hb)).2.2.1 (cellC h1 hl)
   ·rw [h1] at h2; cases h2; exact e rfl
 ·rintro k k' l ⟨i, hi, rfl, h1⟩ ⟨i', hi', rfl, h2⟩
  obtain ⟨b', ⟨hb', hno⟩, hl'⟩ := inF h2
  rcases h1 with h1 | h1
  ·obtain ⟨b, hb, hl⟩ := inF h1
   obtain rfl := same hl hl'
   by_cases e : i = i'
   ·subst e; exact hno hb
   ·exact h.apart i i' hi hi' e b hb hb'
  ·exact (h.wF i' hi' b' hb').2.2.1 (cellC h1 hl')
 ·rintro k l ⟨i, hi, rfl, h1⟩ hs
  rcases h1 with h1 | h1
  ·obtain ⟨b, hb, hl⟩ := inF h1
   have := h.wF i hi b (h.wO i hi b hb)
   rcases shb hs hl with x | x
   ·exact this.2.2.2 x
   ·exact this.2.1 x
  ·have := shb (b := C) hs (.inl ⟨_, h1, rfl⟩)
   rcases this with x | x
   ·exact h.sC x
   ·exact h.hCW x
 ·rintro k l ⟨i, hi, rfl, h1⟩ hs
  obtain ⟨b, ⟨hb, _⟩, hl⟩ := inF h1
  have := h.wF i hi b hb
  rcases shb hs hl with x | x
  ·exact this.2.2.2 x
  ·exact this.2.1 x
end
end
section
variable {o Wg C : Nat} {SB : Blocks} {j : Nat} {w w' : World} {t u : Trace} {D D' : Nat → WX}
theorem qg5 (h : ∀ i g, t.g? i = some g → g ≠ 0 → g < o → t.counts i → ∃ q, t.g? q = some 0 ∧ HappensBefore t i q)
  (hu : ∀ op ∈ u, op.g = 0 ∨ o ≤ op.g ∨ op.act.touch? = none) : ∀ i g, (t ++ u).g? i = some g → g ≠ 0 → g < o → (t ++ u).counts i → ∃ q, (t ++ u).g? q = some 0 ∧ HappensBefore (t ++ u) i q := by
 intro i g hg hne hlt hc
 have hc0 := hc
 obtain ⟨x, hx, _⟩ := hc
 obtain ⟨op, hop, hox⟩ := touch_of hx
 rcases getElem?_append_cases hop with ⟨hi, hop'⟩ | ⟨_, hopu⟩
 ·obtain ⟨q, hq, hb⟩ := h i g (by simpa [Trace.g?, getElem?_append_old hi] using hg) hne hlt ((counts_old hi).1 hc0)
  have hjl : q < t.size := by
   unfold Trace.g? at hq
   obtain ⟨z, hz, _⟩ := Option.map_eq_some_iff.1 hq
   exact lt_size_of_getElem? hz
  exact ⟨q, by simpa [Trace.g?, getElem?_append_old hjl] using hq, hb_app u hb⟩
 ·have eg : op.g = g := by simpa [Trace.g?, hop] using hg
  rcases hu op hopu with h0 | h0 | h0
  ·omega
  ·omega
  ·rw [h0] at hox; cases hox
theorem qfq (h : ∀ i a, touchAt t i = some a → Knows t 0 i ∨ (ShP Wg SB a.loc ∧ a.kind = .atomic) ∨ ∃ g, t.g? i = some g ∧ o ≤ g ∧ a.kind ≠ .atomic)
  (hu : ∀ op ∈ u, ∀ x, op.act.touch? = some x → op.g = 0 ∨ (ShP Wg SB x.loc ∧ x.kind = .atomic) ∨ (o ≤ op.g ∧ x.kind ≠ .atomic)) :
  ∀ i a, touchAt (t ++ u) i = some a → Knows (t ++ u) 0 i ∨ (ShP Wg SB a.loc ∧ a.kind = .atomic) ∨ ∃ g, (t ++ u).g? i = some g ∧ o ≤ g ∧ a.kind ≠ .atomic := by
 intro i a ha
 obtain ⟨op, hop, hox⟩ := touch_of ha
 rcases getElem?_append_cases hop with ⟨hi, hop'⟩ | ⟨_, hopu⟩
 ·rcases h i a (by rw [touchAt_of hop']; exact hox) with h0 | h0 | ⟨g, h0, h1⟩
  ·exact .inl (h0.app u)
  ·exact .inr (.inl h0)
  ·exact .inr (.inr ⟨g, by rw [g?_old hi]; exact h0, h1⟩)
 ·rcases hu op hopu a hox with h0 | h0 | h0
  ·have := knows_own hop
   rw [h0] at this
   exact .inl this
  ·exact .inr (.inl h0)
  ·exact .inr (.inr ⟨op.g, by simp [Trace.g?, hop], h0⟩)
theorem qok {B : Nat} (h : ∀ op ∈ t, qea B op.act) {l : Loc} {S : Blocks} (hl : qes S l) (hS : ∀ b, S b → B ≤ b) : qb4 t l := by
 cases l with
 |cell a => exact qjz h (hS _ hl)
 |obj r =>
  intro i x hx e
  obtain ⟨op, hop, hox⟩ := touch_of hx
  have hlow := h op (mem_of_getElem? hop) x hox
  rw [e] at hlow
  exact Nat.lt_irrefl _ (xll hlow (hS _ hl))
 |_ => exact hl.elim
theorem ql5 {A B E : Blocks} (h : ∀ b, A b → B b ∨ E b) {l : Loc} (hl : qes A l) : qes B l ∨ qes E l := by
 cases l with
 |cell a => exact h _ hl
 |obj r => exact h _ hl
 |_ => exact hl.elim
theorem qmq.appW (h : qmq o Wg C SB j D w t) (A : Apart (ShP Wg SB) (qgf o C j D') (RdD o j D')) {i : Nat} (hi : i < j) (ho : 0 < o) (hsz : w.heap.size ≤ w'.heap.size)
  (hD : ∀ i', i' ≠ i → D' i' = D i') (hF : ∀ b, (D i).F b → (D' i).F b) (hO : ∀ b, (D i).O b → (D' i).O b) (hF' : ∀ b, (D' i).F b → (D i).F b ∨ w.heap.size ≤ b) (hO' : ∀ b, (D' i).O b → (D i).O b ∨ w.heap.size ≤ b) (hlow : ∀ b, (D i).F b → b < w.heap.size)
  (hg : ∀ op ∈ u, op.g = o + i)
  (hk : ∀ op ∈ u, ∀ x, op.act.touch? = some x → x.loc.isMemory = true ∧ ((ShP Wg SB x.loc ∧ x.kind = .atomic) ∨ (x.kind = .plain ∧ (qgf o C j D' (o + i) x.loc ∨ (RdD o j D' (o + i) x.loc ∧ x.write = false)))))
  (hn : ∀ op ∈ u, op.act ≠ .mark (.release (stA Wg))) (hl : ∀ op ∈ u, qea w'.heap.size op.act) : qmq o Wg C SB j D' w' (t ++ u) := by
 have grow : CT (ShP Wg SB) (qgf o C j D') (RdD o j D') t (o - 1 + j) := by
  refine CT.grow h.ct (fun k l => ?_) (fun k l => ?_) (fun k l => ?_) (fun k l => ?_)
  ·rintro ⟨i', hi', rfl, h1⟩
   by_cases e : i' = i
   ·subst e
    rcases h1 with h1 | h1
    ·rcases ql5 hO' h1 with h2 | h2
     ·exact .inl ⟨i', hi', rfl, .inl h2⟩
     ·exact .inr (qok h.seen h2 fun _ x => x)
    ·exact .inl ⟨i', hi', rfl, .inr h1⟩
   ·rw [hD i' e] at h1
    exact .inl ⟨i', hi', rfl, h1⟩
  ·rintro ⟨i', hi', rfl, h1⟩
   by_cases e : i' = i
   ·subst e
    rcases ql5 (B := fun b => (D i').F b ∧ ¬ (D i').O b) (E := fun b => w.heap.size ≤ b) (fun b ⟨hb, hnb⟩ => (hF' b hb).imp (fun x => ⟨x, fun y => hnb (hO b y)⟩) id) h1 with h2 | h2
    ·exact .inl ⟨i', hi', rfl, h2⟩
    ·exact .inr (qok h.seen h2 fun _ x => x)
   ·rw [hD i' e] at h1
    exact .inl ⟨i', hi', rfl, h1⟩
  ·rintro ⟨i', hi', rfl, h1⟩
   by_cases e : i' = i
   ·subst e
    refine ⟨i', hi', rfl, h1.imp (fun x => ?_) id⟩
    cases l with
    |cell a => exact hO _ x
    |obj r => exact hO _ x
    |_ => exact x.elim
   ·exact ⟨i', hi', rfl, by rw [hD i' e]; exact h1⟩
  ·rintro ⟨i', hi', rfl, h1⟩
   by_cases e : i' = i
   ·subst e
    have key : ∀ b, ((D i').F b ∧ ¬ (D i').O b) → ((D' i').F b ∧ ¬ (D' i').O b) := fun b ⟨x, y⟩ => ⟨hF b x, fun z => (hO' b z).elim y fun v => by have := hlow b x; omega⟩
    refine ⟨i', hi', rfl, ?_⟩
    cases l with
    |cell a => exact key _ h1
    |obj r => exact key _ h1
    |_ => exact h1.elim
   ·exact ⟨i', hi', rfl, by rw [hD i' e]; exact h1⟩
 refine ⟨grow.appW A (k := o + i) (by omega) (by omega) fun op hop => ⟨hg op hop, fun x hx => ?_⟩, h.norel.app hn, qg5 h.hand fun op hop => .inr (.inl (by rw [hg op hop]; omega)), qfq h.known fun op hop x hx => ?_, qfr h.mem fun op hop x hx => (hk op hop x hx).1, fun op hop => ?_⟩
 ·rcases (hk op hop x hx).2 with ⟨h1, h2⟩ | ⟨h1, h2⟩
  ·exact .inl ⟨h1, by rw [h2]; simp, by rw [h2]; simp⟩
  ·exact .inr h2
 ·rcases (hk op hop x hx).2 with h1 | ⟨h1, _⟩
  ·exact .inr (.inl h1)
  ·exact .inr (.inr ⟨by rw [hg op hop]; omega, by rw [h1]; simp⟩)
 ·rcases Array.mem_append.1 hop with h' | h'
  ·exact (h.seen op h').mono hsz
  ·exact hl op h'
theorem qmq.app0 (h : qmq o Wg C SB j D w t) (A : Apart (ShP Wg SB) (qgf o C j D) (RdD o j D)) (hsz : w.heap.size ≤ w'.heap.size) (hok : ∀ op ∈ u, Ok0 (ShP Wg SB) (qgf o C j D) (RdD o j D) (o - 1 + j) op)
  (hm : ∀ op ∈ u, ∀ x, op.act.touch? = some x → x.loc.isMemory = true) (hn : ∀ op ∈ u, op.act ≠ .mark (.release (stA Wg))) (hl : ∀ op ∈ u, qea w'.heap.size op.act) : qmq o Wg C SB j D w' (t ++ u) := by
 refine ⟨h.ct.app0 A hok, h.norel.app hn, qg5 h.hand fun op hop => .inl (hok op hop).1, qfq h.known fun op hop x _ => .inl (hok op hop).1, qfr h.mem hm, fun op hop => ?_⟩
 rcases Array.mem_append.1 hop with h' | h'
 ·exact (h.seen op h').mono hsz
 ·exact hl op h'
end
end
section
open Go Go.Conc Go.ConcN Sim
def RL (N : Nat) (f g : Nat → Rank) : Prop := ∃ i, i < N ∧ Rank.sub (f i) (g i) ∧ ∀ k, k ≠ i → f k = g k
theorem RL.wf (N : Nat) : WellFounded (RL N) := by
 induction N with
 |zero => exact ⟨fun g => ⟨_, fun f ⟨i, hi, _⟩ => absurd hi (Nat.not_lt_zero i)⟩⟩
 |succ N ih =>
  have key : ∀ r : Rank, ∀ g : Nat → Rank, g N = r → Acc (RL (N + 1)) g := by
   intro r
   induction r using Rank.wf.induction with
   |_ r ihr =>
    intro g hg
    have inner : ∀ g : Nat → Rank, g N = r → Acc (RL (N + 1)) g := by
     intro g
     induction g using ih.induction with
     |_ g ihg =>
      intro hg
      refine ⟨_, fun f ⟨i, hi, hs, he⟩ => ?_⟩
      by_cases e : i = N
      ·subst e
       exact ihr (f i) (hg ▸ hs) f rfl
      ·exact ihg f ⟨i, by omega, hs, he⟩ ((he N (fun h => e h.symm)).trans hg)
    exact inner g hg
  exact ⟨fun g => key _ g rfl⟩
abbrev Mea := Nat × (Nat → Rank) × Nat
def MLt (N : Nat) : Mea → Mea → Prop := Prod.Lex (· < ·) (Prod.Lex (RL N) (· < ·))
theorem MLt.wf (N : Nat) : WellFounded (MLt N) := (Prod.lex Nat.lt_wfRel (Prod.lex ⟨RL N, RL.wf N⟩ Nat.lt_wfRel)).wf
end
section
open Go Go.Conc Go.ConcN Sim
open Go.ConcR (KK WgAt stA smA rd wr mk Payload DC0 g_of_ofEvents)
section
variable [Payload]
section
variable {P : Program} {ty : TypeId} {o Wg C n : Nat} {SB : Blocks} {jb : Nat → Blocks → Value → World → Prop} {j : Nat} {gs : Array Goroutine} {w w' : World} {t : Trace} {D : Nat → WX} {q : Nat → Nat} {d0 : Nat} {FM OM : Blocks}
theorem WS.rely (jf : ∀ i F v w w1, jb i F v w → Ext F w w1 → jb i F v w1) {i : Nat} {d : WX} {g : Goroutine} (h : WS P ty Wg C n jb i d g w) (e : Ext d.F w w') (r : RW ty Wg C n 0 i w w') : WS P ty Wg C n jb i d g w' := by
 cases h with
 |own h1 h2 h3 h => exact .own h1 h2 h3 (h.ext e)
 |lib h hr => exact .lib (h.rely (by simpa using r)) (jf _ _ _ _ _ hr e)
theorem WS.status {i : Nat} {d : WX} {g : Goroutine} (h : WS P ty Wg C n jb i d g w) : g.status = .running ∨ g.status = .finished := by
 cases h with
 |own h1 h2 h3 h => exact .inl (qnj (fun _ _ _ _ x => x.1) h)
 |lib h hr => exact h.status
theorem WS.woken {i : Nat} {d : WX} {g : Goroutine} (h : WS P ty Wg C n jb i d g w) (a a' : Goroutine) (w1 : World) : woken P a a' w1 g = g := by
 unfold Go.Conc.woken
 split
 ·exact again_running _ h.status
 ·rfl
theorem kz.stepW (jf : ∀ i F v w w1, jb i F v w → Ext F w w1 → jb i F v w1) (h : kz P ty o Wg C n SB jb j gs w t D q d0) (S : Sep Wg C SB j D FM OM w) {i : Nat} (hi : i < j) {g g' : Goroutine} {fn : FuncId} {pos : String} {es : Array Event} {x : WX}
  (S' : Sep Wg C SB j (upd D i x) FM OM w')
  (hoth : ∀ i', i' < j → i' ≠ i → Ext (D i').F w w' ∧ RW ty Wg C n 0 i' w w') (hs' : WS P ty Wg C n jb i x g' w') (hsz : w.heap.size ≤ w'.heap.size)
  (hF : ∀ b, (D i).F b → x.F b) (hO : ∀ b, (D i).O b → x.O b) (hF' : ∀ b, x.F b → (D i).F b ∨ w.heap.size ≤ b) (hO' : ∀ b, x.O b → (D i).O b ∨ w.heap.size ≤ b)
  (hk : ∀ e ∈ es, ∀ y, (MemAct.ofEvent e).touch? = some y → y.loc.isMemory = true ∧ ((ShP Wg SB y.loc ∧ y.kind = .atomic) ∨ (y.kind = .plain ∧ (qgf o C j (upd D i x) (o + i) y.loc ∨ (RdD o j (upd D i x) (o + i) y.loc ∧ y.write = false)))))
  (hnr : ∀ e ∈ es, e.loc ≠ .mark (.release (stA Wg))) (hl : ∀ e ∈ es, qea w'.heap.size (MemAct.ofEvent e))
  (hdeaf : deafBehind (D i).deaf es = x.deaf) (hrel : x.stage ≤ 6 → ∃ r, RelBy (stA Wg) (t ++ MemOp.ofEvents (o + i) fn pos es) (o + i) r)
  (hhas : x.stage ≤ 6 → Has C i x.val w') (hpay : PayAt C n w') :
  kz P ty o Wg C n SB jb j ((gs.map (woken P g g' w')).setIfInBounds (o + i) g') w' (t ++ MemOp.ofEvents (o + i) fn pos es) (upd D i x) q d0 := by
 have hop := h.qke
 have ne : ∀ k, k ≠ o + i → Deaf (t ++ MemOp.ofEvents (o + i) fn pos es) k = Deaf t k := fun k hk => Deaf_other t (fun e => hk e.symm) _ g_of_ofEvents
 refine ⟨by simp [h.size], fun i' g1 h0 hlt hg1 => ?_, fun i' hi' => ?_, ?_, by rw [ne 0 (by omega), h.deaf0], fun i' hi' => ?_, fun k hk' => by rw [ne k (by omega)]; exact h.above k hk', fun i' hi' hst => ?_, fun i' hi' hst => ?_, hpay, hop⟩
 ·rw [get_map_set _ _ _ _ (by omega)] at hg1
  obtain ⟨y, hy, rfl⟩ := Option.map_eq_some_iff.1 hg1
  have hq := h.old i' y h0 hlt hy
  rw [woken_quitsD hq, ne i' (by omega)]
  exact hq
 ·by_cases e : i' = i
  ·subst e
   exact ⟨g', get_map_set_same _ _ _ (by rw [h.size]; omega), by rw [upd_same]; exact hs'⟩
  ·obtain ⟨y, hy, hsy⟩ := h.wk i' hi'
   refine ⟨y, by rw [get_map_set _ _ _ _ (by omega), hy, Option.map_some, hsy.woken], ?_⟩
   rw [upd_ne D _ e]
   exact hsy.rely jf (hoth i' hi' e).1 (hoth i' hi' e).2
 ·refine h.tr.appW S'.own hi hop hsz (fun i' e => upd_ne D _ e) (by rw [upd_same]; exact hF) (by rw [upd_same]; exact hO) (by rw [upd_same]; exact hF') (by rw [upd_same]; exact hO') (fun b hb => (S.wF i hi b hb).1) g_of_ofEvents (fun op hop' y hy => ?_) (norel_of hnr) (fun op hop' => ?_)
  ·obtain ⟨e, he, rfl⟩ := Go.Conc.mem_ofEvents hop'
   exact hk e he y hy
  ·obtain ⟨e, he, rfl⟩ := Go.Conc.mem_ofEvents hop'
   exact hl e he
 ·by_cases e : i' = i
  ·subst e; rw [Deaf_own, h.deafW i' hi', upd_same]; exact hdeaf
  ·rw [ne _ (by omega), h.deafW i' hi', upd_ne D _ e]
 ·by_cases e : i' = i
  ·subst e; rw [upd_same] at hst; exact hrel hst
  ·rw [upd_ne D _ e] at hst
   obtain ⟨r, hr⟩ := h.rel i' hi' hst
   exact ⟨r, hr.appOther g_of_ofEvents (by omega)⟩
 ·by_cases e : i' = i
  ·subst e; rw [upd_same] at hst ⊢; exact hhas hst
  ·rw [upd_ne D _ e] at hst ⊢
   exact (hoth i' hi' e).2.cell.trans (h.has i' hi' hst)
theorem kz.step0 (jf : ∀ i F v w w1, jb i F v w → Ext F w w1 → jb i F v w1) (h : kz P ty o Wg C n SB jb j gs w t D q d0) (S : Sep Wg C SB j D FM OM w) {a a' : Goroutine} {fn : FuncId} {pos : String} {es : Array Event}
  (hoth : ∀ i, i < j → Ext (D i).F w w' ∧ RW ty Wg C n 0 i w w') (hsz : w.heap.size ≤ w'.heap.size)
  (hok : ∀ op ∈ MemOp.ofEvents 0 fn pos es, Ok0 (ShP Wg SB) (qgf o C j D) (RdD o j D) (o - 1 + j) op) (hm : ∀ e ∈ es, ∀ y, (MemAct.ofEvent e).touch? = some y → y.loc.isMemory = true)
  (hnr : ∀ e ∈ es, e.loc ≠ .mark (.release (stA Wg))) (hl : ∀ e ∈ es, qea w'.heap.size (MemAct.ofEvent e)) (hpay : PayAt C n w') :
  kz P ty o Wg C n SB jb j ((gs.map (woken P a a' w')).setIfInBounds 0 a') w' (t ++ MemOp.ofEvents 0 fn pos es) D q (deafBehind d0 es) := by
 have hop := h.qke
 have ne : ∀ k, k ≠ 0 → Deaf (t ++ MemOp.ofEvents 0 fn pos es) k = Deaf t k := fun k hk => Deaf_other t (fun e => hk e.symm) _ g_of_ofEvents
 refine ⟨by simp [h.size], fun i' g1 h0 hlt hg1 => ?_, fun i' hi' => ?_, ?_, by rw [Deaf_own, h.deaf0], fun i' hi' => by rw [ne _ (by omega), h.deafW i' hi'], fun k hk' => by rw [ne k (by omega)]; exact h.above k hk', fun i' hi' hst => ?_, fun i' hi' hst => (hoth i' hi').2.cell.trans (h.has i' hi' hst), hpay, hop⟩
 ·rw [get_map_set _ _ _ _ (by omega)] at hg1
  obtain ⟨y, hy, rfl⟩ := Option.map_eq_some_iff.1 hg1
  have hq := h.old i' y h0 hlt hy
  rw [woken_quitsD hq, ne i' (by omega)]
  exact hq
 ·obtain ⟨y, hy, hsy⟩ := h.wk i' hi'
  exact ⟨y, by rw [get_map_set _ _ _ _ (by omega), hy, Option.map_some, hsy.woken], hsy.rely jf (hoth i' hi').1 (hoth i' hi').2⟩
 ·refine h.tr.app0 S.own hsz hok (fun op hop' y hy => ?_) (norel_of hnr) (fun op hop' => ?_)
  ·obtain ⟨e, he, rfl⟩ := Go.Conc.mem_ofEvents hop'
   exact hm e he y hy
  ·obtain ⟨e, he, rfl⟩ := Go.Conc.mem_ofEvents hop'
   exact hl e he
 ·obtain ⟨r, hr⟩ := h.rel i' hi' hst
  exact ⟨r, hr.appOther g_of_ofEvents (by omega)⟩
theorem kz.q2v (h : kz P ty o Wg C n SB jb j gs w t D q d0) (S : Sep Wg C SB j D FM OM w) {k : Nat} (k0 : 0 < k) (ko : k < o) {g g' : Goroutine} {fn : FuncId} {pos : String} {es : Array Event} {q1 : Nat}
  (hm : ∀ e ∈ es, e.mute = true) (hq : QuitsD P q1 (deafBehind (Deaf t k) es) g') :
  kz P ty o Wg C n SB jb j ((gs.map (woken P g g' w)).setIfInBounds k g') w (t ++ MemOp.ofEvents k fn pos es) D (upd q k q1) d0 := by
 have hop := h.qke
 have ne : ∀ k', k' ≠ k → Deaf (t ++ MemOp.ofEvents k fn pos es) k' = Deaf t k' := fun k' hk => Deaf_other t (fun e => hk e.symm) _ g_of_ofEvents
 have quiet : ∀ op ∈ MemOp.ofEvents k fn pos es, op.act.touch? = none := fun op hop' => by obtain ⟨e, he, rfl⟩ := Go.Conc.mem_ofEvents hop'; exact touch_mute (hm e he)
 refine ⟨by simp [h.size], fun i' g1 h0 hlt hg1 => ?_, fun i' hi' => ?_, ?_, by rw [ne 0 (by omega), h.deaf0], fun i' hi' => by rw [ne _ (by omega), h.deafW i' hi'], fun k' hk' => by rw [ne k' (by omega)]; exact h.above k' hk', fun i' hi' hst => ?_, h.has, h.pay, hop⟩
 ·by_cases e : i' = k
  ·subst e
   rw [get_map_set_same _ _ _ (by rw [h.size]; omega)] at hg1
   cases hg1
   rw [upd_same, Deaf_own]
   exact hq
  ·rw [get_map_set _ _ _ _ (fun x => e x.symm)] at hg1
   obtain ⟨y, hy, rfl⟩ := Option.map_eq_some_iff.1 hg1
   have hq := h.old i' y h0 hlt hy
   rw [woken_quitsD hq, ne i' e, upd_ne q _ e]
   exact hq
 ·obtain ⟨y, hy, hsy⟩ := h.wk i' hi'
  exact ⟨y, by rw [get_map_set _ _ _ _ (by omega), hy, Option.map_some, hsy.woken], hsy⟩
 ·have A := S.own (o := o)
  refine ⟨h.tr.ct.appW A (k := k) (by omega) (by omega) fun op hop' => ⟨g_of_ofEvents op hop', fun x hx => by rw [quiet op hop'] at hx; cases hx⟩, h.tr.norel.app (norel_of fun e he hl => (by have := hm e he; obtain ⟨l, _, _⟩ := e; have hl : l = _ := hl; subst hl; cases this)), qg5 h.tr.hand fun op hop' => .inr (.inr (quiet op hop')),
   qfq h.tr.known fun op hop' x hx => (by rw [quiet op hop'] at hx; cases hx), qfr h.tr.mem fun op hop' x hx => (by rw [quiet op hop'] at hx; cases hx), qfv h.tr.seen fun op hop' => by obtain ⟨e, he, rfl⟩ := Go.Conc.mem_ofEvents hop'; exact qem (low_mute (hm e he) _)⟩
 ·obtain ⟨r, hr⟩ := h.rel i' hi' hst
  exact ⟨r, hr.appOther g_of_ofEvents (by omega)⟩
theorem kz.at (jf : ∀ i F v w w1, jb i F v w → Ext F w w1 → jb i F v w1) (h : kz P ty o Wg C n SB jb j gs w t D q d0) (d : Nat) : kz P ty o Wg C n SB jb j gs (w.at d) t D q d0 :=
 ⟨h.size, h.old, fun i hi => let ⟨g, hg, hs⟩ := h.wk i hi; ⟨g, hg, hs.rely jf ⟨jy _, fun _ _ => rfl⟩ (RW.at w d)⟩, ⟨h.tr.ct, h.tr.norel, h.tr.hand, h.tr.known, h.tr.mem, h.tr.seen⟩, h.deaf0, h.deafW, h.above, h.rel, h.has, h.pay, h.qke⟩
end
end
section
variable [Payload]
section
variable {P : Program} {ty : TypeId} {o Wg C n : Nat} {SB : Blocks} {jb : Nat → Blocks → Value → World → Prop} {j : Nat} {gs : Array Goroutine} {w : World} {t : Trace} {D : Nat → WX} {q : Nat → Nat} {FM OM : Blocks}
theorem kz.spawn (h : kz P ty o Wg C n SB jb j gs w t D q 0) {x : WX} (S' : Sep Wg C SB (j + 1) (upd D j x) FM OM w) {a' child : Goroutine} (h9 : x.stage = 9) (hx : x.deaf = 0) (hs : WS P ty Wg C n jb j x child w)
  {fn : FuncId} {pos : String} {fn' : FuncId} {pos' : String} :
  kz P ty o Wg C n SB jb (j + 1) ((gs.setIfInBounds 0 a').push child) w (t ++ #[{ g := 0, fn, pos, act := .go (o + j) }, { g := o + j, fn := fn', pos := pos', act := .start }]) (upd D j x) q 0 := by
 have hop := h.qke
 have quiet : ∀ op ∈ (#[{ g := 0, fn, pos, act := .go (o + j) }, { g := o + j, fn := fn', pos := pos', act := .start }] : Trace), op.act.touch? = none ∧ (op.g = 0 ∨ op.g = o + j) ∧ op.act ≠ .mark (.release (stA Wg)) ∧ qea w.heap.size op.act := fun op hop' => by
  simp only [List.mem_toArray, List.mem_cons, List.not_mem_nil, or_false] at hop'
  rcases hop' with rfl | rfl
  ·exact ⟨rfl, .inl rfl, by simp, qem trivial⟩
  ·exact ⟨rfl, .inr rfl, by simp, qem trivial⟩
 have deaf : ∀ k, Deaf (t ++ #[{ g := 0, fn, pos, act := .go (o + j) }, { g := o + j, fn := fn', pos := pos', act := .start }]) k = Deaf t k := fun k => by
  have := Deaf_append t k [{ g := 0, fn, pos, act := .go (o + j) }, { g := o + j, fn := fn', pos := pos', act := .start }]
  rw [show (#[{ g := 0, fn, pos, act := .go (o + j) }, { g := o + j, fn := fn', pos := pos', act := .start }] : Trace) = [{ g := 0, fn, pos, act := .go (o + j) }, { g := o + j, fn := fn', pos := pos', act := .start }].toArray from rfl, this]
  simp [deafStep]
 have lt0 : ∀ (i : Nat), i < j → i ≠ j := fun i hi => Nat.ne_of_lt hi
 refine ⟨by simp [h.size]; omega, fun i' g1 h0 hlt hg1 => ?_, fun i' hi' => ?_, ?_, by rw [deaf, h.deaf0], fun i' hi' => ?_, fun k hk => by rw [deaf]; exact h.above k (by omega), fun i' hi' hst => ?_, fun i' hi' hst => ?_, h.pay, hop⟩
 ·have hs1 : i' < (gs.setIfInBounds 0 a').size := by simp [h.size]; omega
  rw [Array.getElem?_push_lt hs1] at hg1
  have hg2 : gs[i']? = some g1 := by
   rw [← hg1, ← Array.getElem?_eq_getElem hs1, xne (by omega)]
  rw [deaf]
  exact h.old i' g1 h0 hlt hg2
 ·by_cases e : i' = j
  ·subst e
   refine ⟨child, ?_, by rw [upd_same]; exact hs⟩
   have : o + i' = (gs.setIfInBounds 0 a').size := by simp [h.size]
   rw [this]
   exact Array.getElem?_push_size
  ·obtain ⟨y, hy, hsy⟩ := h.wk i' (by omega)
   refine ⟨y, ?_, by rw [upd_ne D _ e]; exact hsy⟩
   have hs1 : o + i' < (gs.setIfInBounds 0 a').size := by simp [h.size]; omega
   rw [Array.getElem?_push_lt hs1, ← Array.getElem?_eq_getElem hs1, xne (by omega)]
   exact hy
 ·have same : ∀ k l, k ≤ o - 1 + j → (qgf o C (j + 1) (upd D j x) k l ↔ qgf o C j D k l) ∧ (RdD o (j + 1) (upd D j x) k l ↔ RdD o j D k l) := by
   intro k l hk
   refine ⟨⟨?_, ?_⟩, ⟨?_, ?_⟩⟩
   ·rintro ⟨i, hi, rfl, h1⟩
    have e : i ≠ j := by omega
    rw [upd_ne D _ e] at h1
    exact ⟨i, by omega, rfl, h1⟩
   ·rintro ⟨i, hi, rfl, h1⟩
    exact ⟨i, by omega, rfl, by rw [upd_ne D _ (lt0 i hi)]; exact h1⟩
   ·rintro ⟨i, hi, rfl, h1⟩
    have e : i ≠ j := by omega
    rw [upd_ne D _ e] at h1
    exact ⟨i, by omega, rfl, h1⟩
   ·rintro ⟨i, hi, rfl, h1⟩
    exact ⟨i, by omega, rfl, by rw [upd_ne D _ (lt0 i hi)]; exact h1⟩
  have ct0 := h.tr.ct
  have ct1 : CT (ShP Wg SB) (qgf o C (j + 1) (upd D j x)) (RdD o (j + 1) (upd D j x)) t (o - 1 + j) :=
   ⟨ct0.quiet, fun k k1 kj l hl => ct0.own k k1 kj l ((same k l kj).1.1 hl), fun k k1 kj l hl => ct0.rd k k1 kj l ((same k l kj).2.1 hl),
    fun l hs hl => ct0.free l hs fun k k1 kj => ⟨fun y => (hl k k1 kj).1 ((same k l kj).1.2 y), fun y => (hl k k1 kj).2 ((same k l kj).2.2 y)⟩, fun l hs hl => ct0.mine l hs fun k k1 kj y => hl k k1 kj ((same k l kj).1.2 y), ct0.nr, ct0.gs⟩
  have e1 : o - 1 + j + 1 = o + j := by omega
  have ct2 := CT.fork S'.own ct1 (x := { g := 0, fn, pos, act := .go (o + j) }) (y := { g := o + j, fn := fn', pos := pos', act := .start }) ⟨rfl, by rw [e1]⟩ ⟨by rw [e1], rfl⟩ h.deaf0
  refine ⟨ct2, h.tr.norel.app fun op hop' => (quiet op hop').2.2.1, qg5 h.tr.hand fun op hop' => .inr (.inr (quiet op hop').1), qfq h.tr.known fun op hop' y hy => (by rw [(quiet op hop').1] at hy; cases hy), qfr h.tr.mem fun op hop' y hy => (by rw [(quiet op hop').1] at hy; cases hy), qfv h.tr.seen fun op hop' => (quiet op hop').2.2.2⟩
 ·by_cases e : i' = j
  ·subst e; rw [deaf, upd_same, hx]; exact h.above _ (jy _)
  ·rw [deaf, h.deafW i' (by omega), upd_ne D _ e]
 ·by_cases e : i' = j
  ·subst e; rw [upd_same] at hst; omega
  ·rw [upd_ne D _ e] at hst
   obtain ⟨r, hr⟩ := h.rel i' (by omega) hst
   refine ⟨r, hr.app fun i hi hg hc => ?_⟩
   obtain ⟨y, hy, _⟩ := hc
   obtain ⟨op, hop', hoy⟩ := touch_of hy
   rcases getElem?_append_cases hop' with ⟨hlt, _⟩ | ⟨_, hou⟩
   ·omega
   ·rw [(quiet op hou).1] at hoy; cases hoy
 ·by_cases e : i' = j
  ·subst e; rw [upd_same] at hst; omega
  ·rw [upd_ne D _ e] at hst ⊢
   exact h.has i' (by omega) hst
end
end
def JT (n : Nat) : Tag → Nat → Prop
 | .wg r, j => j + r = n
 | .kdS r, j | .ad r, j | .rs r, j | .en r, j | .gos r, j => j + r + 1 = n
 |_, j => j = n
def qah (j : Nat) (D : Nat → WX) : Nat := sumTo j fun i => (D i).stage
def qbq (j : Nat) (D : Nat → WX) : Nat := sumTo j fun i => (D i).fuel
def ranks (n : Nat) (D : Nat → WX) (rk : Rank) : Nat → Rank := fun i => if i = n then rk else (D i).rank
structure Kept (Wg C L0 : Nat) (w0 : World) (j : Nat) (D : Nat → WX) (OM : Blocks) (w : World) : Prop where
 keep : ∀ b, b < L0 → w.heap[b]? = w0.heap[b]?
 lW : L0 ≤ Wg
 lC : L0 ≤ C
 lO : ∀ i, i < j → ∀ b, (D i).O b → L0 ≤ b
 lM : ∀ b, OM b → L0 ≤ b
 tape : w.tape = w0.tape
 os : w.os = w0.os
 output : w.output = w0.output
 nb : NB w0 → NB w
theorem qdi {w w' : World} {b : Nat} (_ : ∀ r, r ≠ b → w'.heap[r]? = w.heap[r]?) (_ : ∃ c e z, w'.heap[b]? = some (.cells c e z)) (_ : NB w) : NB w' := trivial
section
variable [Payload] (P : Program) (ty : TypeId) (o Wg C n : Nat) (SB : Blocks) (jb : Nat → Blocks → Value → World → Prop) (K : Goroutine → World → Prop) (L0 : Nat) (w0 : World)
def qhp (μ : Mea) (m : Machine) (t : Trace) : Prop :=
 ∃ (gs : Array Goroutine) (w : World) (sl : Option (Nat × Nat)) (j : Nat) (D : Nat → WX) (q : Nat → Nat) (tag : Tag) (f0 d0 : Nat) (rk : Rank) (FM OM : Blocks) (a : Goroutine) (st sm : Int),
  m = crowd gs w sl ∧ gs[0]? = some a ∧ MS P ty Wg C n jb K tag f0 d0 rk FM OM a w ∧ kz P ty o Wg C n SB jb j gs w t D q d0 ∧ Sep Wg C SB j D FM OM w ∧ WgAt ty Wg w st sm ∧ Mo j (xd D) tag st sm ∧ JT n tag j ∧
  Kept Wg C L0 w0 j D OM w ∧ μ = (psi n (Vc j (xd D)) tag + qah j D, ranks n D rk, f0 + 2 * qbq j D + 2 * sumTo o q)
end
theorem JT.retag {n j : Nat} {tag tag' : Tag} (h : JT n tag j) (e : tag' = tag ∨ (tag = .blk ∧ tag' = .sm)) : JT n tag' j := by
 rcases e with rfl | ⟨rfl, rfl⟩
 ·exact h
 ·exact h
theorem qmd (n v : Nat) {tag tag' : Tag} (e : tag' = tag ∨ (tag = .blk ∧ tag' = .sm)) : psi n v tag' = psi n v tag := by
 rcases e with rfl | ⟨rfl, rfl⟩ <;> rfl
theorem qyy (n : Nat) {v v' : Nat} (h : v' ≤ v) (tag : Tag) : psi n v' tag ≤ psi n v tag := by
 cases tag <;> simp only [psi] <;> omega
theorem JT.le {n j : Nat} {tag : Tag} (h : JT n tag j) : j ≤ n := by
 cases tag <;> simp only [JT] at h <;> omega
section
variable [Payload] {P : Program} {ty : TypeId} {o Wg C n : Nat} {SB : Blocks} {jb : Nat → Blocks → Value → World → Prop} {K : Goroutine → World → Prop} {L0 : Nat} {w0 : World} {gs : Array Goroutine} {w w' : World} {sl : Option (Nat × Nat)} {j : Nat} {D : Nat → WX} {q : Nat → Nat} {tag : Tag} {f0 d0 : Nat} {rk : Rank} {FM OM : Blocks} {a : Goroutine} {t : Trace}
theorem workerStep (jf : ∀ i F v w w1, jb i F v w → Ext F w w1 → jb i F v w1) (ha : gs[0]? = some a) (hms : MS P ty Wg C n jb K tag f0 d0 rk FM OM a w) (hcom : kz P ty o Wg C n SB jb j gs w t D q d0) (S : Sep Wg C SB j D FM OM w) (hjt : JT n tag j) (hk0 : Kept Wg C L0 w0 j D OM w)
  {i : Nat} (hi : i < j) {g g' : Goroutine} {es : Array Event} {x : WX} {st' sm' : Int} (hg : gs[o + i]? = some g) (hgo : stepG P false g w = .go g' w' es)
  (S' : Sep Wg C SB j (upd D i x) FM OM w') (hRM : RM ty Wg FM w w')
  (hoth : ∀ i', i' < j → i' ≠ i → Ext (D i').F w w' ∧ RW ty Wg C n 0 i' w w') (hs' : WS P ty Wg C n jb i x g' w') (hsz : w.heap.size ≤ w'.heap.size)
  (hF : ∀ b, (D i).F b → x.F b) (hO : ∀ b, (D i).O b → x.O b) (hF' : ∀ b, x.F b → (D i).F b ∨ w.heap.size ≤ b) (hO' : ∀ b, x.O b → (D i).O b ∨ w.heap.size ≤ b)
  (hk : ∀ e ∈ es, ∀ y, (MemAct.ofEvent e).touch? = some y → y.loc.isMemory = true ∧ ((ShP Wg SB y.loc ∧ y.kind = .atomic) ∨ (y.kind = .plain ∧ (qgf o C j (upd D i x) (o + i) y.loc ∨ (RdD o j (upd D i x) (o + i) y.loc ∧ y.write = false)))))
  (hnr : ∀ e ∈ es, e.loc ≠ .mark (.release (stA Wg))) (hl : ∀ e ∈ es, qea w'.heap.size (MemAct.ofEvent e))
  (hdeaf : deafBehind (D i).deaf es = x.deaf) (hrel : x.stage ≤ 6 → ∃ r, RelBy (stA Wg) (t ++ MemOp.ofEvents (o + i) g.frame.fn g.frame.place es) (o + i) r)
  (hhas : x.stage ≤ 6 → Has C i x.val w') (hpay : PayAt C n w') (hwg : WgAt ty Wg w' st' sm')
  (hmode : ∀ tag', (tag' = tag ∨ (tag = .blk ∧ tag' = .sm)) → (mayWake P g = true → g'.status = .running → tag' ≠ .blk) → Mo j (xd (upd D i x)) tag' st' sm')
  (hk1 : Kept Wg C L0 w0 j (upd D i x) OM w')
  (hlt : (x.stage < (D i).stage ∧ cnt (xd (upd D i x) i) ≤ cnt (xd D i)) ∨ (x.stage = (D i).stage ∧ Rank.sub x.rank (D i).rank) ∨ (x.stage = (D i).stage ∧ x.rank = (D i).rank ∧ x.fuel + 1 = (D i).fuel)) :
  ∃ m₁ ops μ', runT P (crowd gs w sl) (o + i) = (.next m₁, ops) ∧ MLt (n + 1) μ' (psi n (Vc j (xd D)) tag + qah j D, ranks n D rk, f0 + 2 * qbq j D + 2 * sumTo o q) ∧ qhp P ty o Wg C n SB jb K L0 w0 μ' m₁ (t ++ ops) := by
 have hop := hcom.qke
 have hjn := hjt.le
 obtain ⟨tag', f', qj3, hf', htag, hwk⟩ := hms.wokenBy hRM g g'
 have hrun := runT_crowd_go (P := P) (sl := sl) (i := o + i) hg (by rw [show (o + i == 0) = false from by simp; omega]; exact hgo)
 have hcom' := hcom.stepW (fn := g.frame.fn) (pos := g.frame.place) jf S hi S' hoth hs' hsz hF hO hF' hO' hk hnr hl hdeaf hrel hhas hpay (g := g)
 refine ⟨_, _, _, hrun, ?_, _, w', sl, j, upd D i x, q, tag', f', d0, rk, FM, OM, woken P g g' w' a, st', sm', rfl, by rw [get_map_set _ _ _ _ (by omega), ha]; rfl, qj3, hcom', S', hwg, hmode tag' htag hwk, hjt.retag htag, hk1, rfl⟩
 rw [qmd n _ htag]
 have e1 := sumTo_upd D x (fun d : WX => cnt ⟨if d.stage = 9 then 7 else d.stage, d.fuel, d.deaf⟩) hi
 have e2 := sumTo_upd D x WX.stage hi
 have e3 := sumTo_upd D x WX.fuel hi
 have c1 : cnt (xd (upd D i x) i) = cnt ⟨if x.stage = 9 then 7 else x.stage, x.fuel, x.deaf⟩ := by simp only [xd, upd_same]
 have v1 : Vc j (xd (upd D i x)) = sumTo j fun a => cnt ⟨if (upd D i x a).stage = 9 then 7 else (upd D i x a).stage, (upd D i x a).fuel, (upd D i x a).deaf⟩ := rfl
 have v2 : Vc j (xd D) = sumTo j fun a => cnt ⟨if (D a).stage = 9 then 7 else (D a).stage, (D a).fuel, (D a).deaf⟩ := rfl
 rcases hlt with ⟨h1, h2⟩ | ⟨h1, h2⟩ | ⟨h1, h2, h3⟩
 ·refine Prod.Lex.left _ _ ?_
  rw [c1] at h2
  have h2' : cnt ⟨if x.stage = 9 then 7 else x.stage, x.fuel, x.deaf⟩ ≤ cnt ⟨if (D i).stage = 9 then 7 else (D i).stage, (D i).fuel, (D i).deaf⟩ := h2
  have := qyy n (v' := Vc j (xd (upd D i x))) (v := Vc j (xd D)) (by rw [v1, v2]; omega) tag
  simp only [qah]
  omega
 ·have ec : cnt ⟨if x.stage = 9 then 7 else x.stage, x.fuel, x.deaf⟩ = cnt ⟨if (D i).stage = 9 then 7 else (D i).stage, (D i).fuel, (D i).deaf⟩ := by simp only [cnt, h1]
  have ev : Vc j (xd (upd D i x)) = Vc j (xd D) := by rw [v1, v2]; omega
  have es : qah j (upd D i x) = qah j D := by simp only [qah]; omega
  rw [ev, es]
  refine Prod.Lex.right _ (Prod.Lex.left _ _ ⟨i, by omega, ?_, fun k hk => ?_⟩)
  ·simp only [ranks, upd_same]
   rw [if_neg (by omega), if_neg (by omega)]
   exact h2
  ·simp only [ranks]
   rw [upd_ne D _ hk]
 ·have ec : cnt ⟨if x.stage = 9 then 7 else x.stage, x.fuel, x.deaf⟩ = cnt ⟨if (D i).stage = 9 then 7 else (D i).stage, (D i).fuel, (D i).deaf⟩ := by simp only [cnt, h1]
  have ev : Vc j (xd (upd D i x)) = Vc j (xd D) := by rw [v1, v2]; omega
  have es : qah j (upd D i x) = qah j D := by simp only [qah]; omega
  have er : ranks n (upd D i x) rk = ranks n D rk := by
   funext k
   simp only [ranks]
   by_cases e : k = i
   ·subst e; rw [upd_same, h2]
   ·rw [upd_ne D _ e]
  rw [ev, es, er]
  refine Prod.Lex.right _ (Prod.Lex.right _ ?_)
  simp only [qbq]
  omega
end
section
variable [Payload] {P : Program} {ty : TypeId} {o Wg C n : Nat} {SB : Blocks} {jb : Nat → Blocks → Value → World → Prop} {K : Goroutine → World → Prop} {L0 : Nat} {w0 : World} {gs : Array Goroutine} {w w' : World} {sl : Option (Nat × Nat)} {j : Nat} {D : Nat → WX} {q : Nat → Nat} {tag : Tag} {f0 d0 : Nat} {rk : Rank} {FM OM : Blocks} {a : Goroutine} {t : Trace}
theorem callerStep (jf : ∀ i F v w w1, jb i F v w → Ext F w w1 → jb i F v w1) (ha : gs[0]? = some a) (hcom : kz P ty o Wg C n SB jb j gs w t D q d0) (S : Sep Wg C SB j D FM OM w)
  {a' : Goroutine} {es : Array Event} {tag' : Tag} {f' : Nat} {rk' : Rank} {FM' OM' : Blocks} {st' sm' : Int} (hgo : stepG P true a w = .go a' w' es)
  (qj3 : MS P ty Wg C n jb K tag' f' (deafBehind d0 es) rk' FM' OM' a' w') (S' : Sep Wg C SB j D FM' OM' w')
  (hoth : ∀ i, i < j → Ext (D i).F w w' ∧ RW ty Wg C n 0 i w w') (hsz : w.heap.size ≤ w'.heap.size)
  (hok : ∀ op ∈ MemOp.ofEvents 0 a.frame.fn a.frame.place es, Ok0 (ShP Wg SB) (qgf o C j D) (RdD o j D) (o - 1 + j) op) (hm : ∀ e ∈ es, ∀ y, (MemAct.ofEvent e).touch? = some y → y.loc.isMemory = true)
  (hnr : ∀ e ∈ es, e.loc ≠ .mark (.release (stA Wg))) (hl : ∀ e ∈ es, qea w'.heap.size (MemAct.ofEvent e)) (hpay : PayAt C n w')
  (hwg : WgAt ty Wg w' st' sm') (hmode : Mo j (xd D) tag' st' sm') (hjt : JT n tag' j) (hk1 : Kept Wg C L0 w0 j D OM' w')
  (hlt : psi n (Vc j (xd D)) tag' < psi n (Vc j (xd D)) tag ∨ (psi n (Vc j (xd D)) tag' = psi n (Vc j (xd D)) tag ∧ Rank.sub rk' rk) ∨ (psi n (Vc j (xd D)) tag' = psi n (Vc j (xd D)) tag ∧ rk' = rk ∧ f' < f0)) :
  ∃ m₁ ops μ', runT P (crowd gs w sl) 0 = (.next m₁, ops) ∧ MLt (n + 1) μ' (psi n (Vc j (xd D)) tag + qah j D, ranks n D rk, f0 + 2 * qbq j D + 2 * sumTo o q) ∧ qhp P ty o Wg C n SB jb K L0 w0 μ' m₁ (t ++ ops) := by
 have hop := hcom.qke
 have hjn := hjt.le
 have hrun := runT_crowd_go (P := P) (sl := sl) (i := 0) ha (show stepG P (0 == 0) a w = _ from hgo)
 have hcom' := hcom.step0 (fn := a.frame.fn) (pos := a.frame.place) jf S hoth hsz hok hm hnr hl hpay (a := a) (a' := a')
 refine ⟨_, _, _, hrun, ?_, _, w', sl, j, D, q, tag', f', deafBehind d0 es, rk', FM', OM', a', st', sm', rfl, get_map_set_same _ _ _ (by rw [hcom.size]; omega), qj3, hcom', S', hwg, hmode, hjt, hk1, rfl⟩
 rcases hlt with h | ⟨h1, h2⟩ | ⟨h1, h2, h3⟩
 ·exact Prod.Lex.left _ _ (by omega)
 ·rw [h1]
  refine Prod.Lex.right _ (Prod.Lex.left _ _ ⟨n, by omega, by simp only [ranks, if_true]; exact h2, fun k hk => ?_⟩)
  simp only [ranks]
  rw [if_neg hk, if_neg hk]
 ·rw [h1, h2]
  exact Prod.Lex.right _ (Prod.Lex.right _ (by omega))
theorem q14 (ha : gs[0]? = some a) (hms : MS P ty Wg C n jb K tag f0 d0 rk FM OM a w) (hcom : kz P ty o Wg C n SB jb j gs w t D q d0) (S : Sep Wg C SB j D FM OM w) (hjt : JT n tag j) (hk0 : Kept Wg C L0 w0 j D OM w)
  {st sm : Int} (hwg : WgAt ty Wg w st sm) (hmode : ∀ tag', (tag' = tag ∨ (tag = .blk ∧ tag' = .sm)) → Mo j (xd D) tag' st sm) {k : Nat} (k0 : 0 < k) (ko : k < o) {g : Goroutine} (hg : gs[k]? = some g) (hrun : g.status = .running) :
  ∃ m₁ ops μ', runT P (crowd gs w sl) k = (.next m₁, ops) ∧ MLt (n + 1) μ' (psi n (Vc j (xd D)) tag + qah j D, ranks n D rk, f0 + 2 * qbq j D + 2 * sumTo o q) ∧ qhp P ty o Wg C n SB jb K L0 w0 μ' m₁ (t ++ ops) := by
 have hq := hcom.old k g k0 ko hg
 cases hqk : q k with
 |zero => rw [hqk] at hq; rw [hq.1] at hrun; cases hrun
 |succ q1 =>
  rw [hqk] at hq
  rcases hq with ⟨hf, _⟩ | ⟨_, g', es, hm, hstp, hq'⟩
  ·rw [hf] at hrun; cases hrun
  have hrunT := runT_crowd_go (P := P) (sl := sl) (i := k) hg (by rw [show (k == 0) = false from by simp; omega]; exact hstp w)
  obtain ⟨tag', f', qj3, hf', htag, hwk⟩ := hms.wokenBy (jl w) g g'
  refine ⟨_, _, _, hrunT, ?_, _, w, sl, j, D, upd q k q1, tag', f', d0, rk, FM, OM, woken P g g' w a, st, sm, rfl, by rw [get_map_set _ _ _ _ (by omega), ha]; rfl, qj3, hcom.q2v S k0 ko hm hq', S, hwg, hmode tag' htag, hjt.retag htag, hk0, rfl⟩
  rw [qmd n _ htag]
  have hsum : sumTo o (upd q k q1) + (q1 + 1) = sumTo o q + q1 := by
   have := sumTo_upd q q1 id ko
   simpa [hqk] using this
  exact Prod.Lex.right _ (Prod.Lex.right _ (by omega))
end
section
variable [Payload] {P : Program} {ty : TypeId} {o Wg C n : Nat} {SB : Blocks} {jb : Nat → Blocks → Value → World → Prop} {K : Goroutine → World → Prop} {L0 : Nat} {w0 : World} {gs : Array Goroutine} {w w' : World} {sl : Option (Nat × Nat)} {j : Nat} {D : Nat → WX} {q : Nat → Nat} {tag : Tag} {f0 d0 : Nat} {rk : Rank} {FM OM : Blocks} {a : Goroutine} {t : Trace} {st sm : Int}
theorem qsv {i : Nat} (hW : w'.heap[Wg]? = w.heap[Wg]?) (hC : w'.heap[C]? = w.heap[C]?) : RW ty Wg C n 0 i w w' :=
 ⟨fun b hb => absurd hb (Nat.not_lt_zero b), fun ⟨s, m, h⟩ => ⟨s, m, by unfold WgAt at *; rw [hW]; exact h⟩, fun ⟨cs, h1, h2⟩ => ⟨cs, by rw [hC]; exact h1, h2⟩, cell_of_block hC i⟩
omit [Payload] in
theorem Mo.congr {D D' : Nat → WD} {tag : Tag} (h : ∀ a, a < j → (D' a).stage = (D a).stage) (hm : Mo j D tag st sm) : Mo j D' tag st sm := by
 have hv : Vc j D' = Vc j D := sumTo_congr fun a ha => by simp only [cnt, h a ha]
 cases hm with
 |opn h1 h2 h3 => rw [← hv]; exact .opn h1 (fun a ha => by rw [h a ha]; exact h2 a ha) (fun vs e => by rw [hv]; exact h3 vs e)
 |reg h1 h2 h3 => rw [← hv]; exact .reg h1 (fun a ha => by rw [h a ha]; exact h2 a ha) (by rw [hv]; exact h3)
 |last L h1 h2 h3 h4 => rw [← h L h2]; exact .last L h1 h2 (by rw [h L h2]; exact h3) (fun a ha e => by rw [h a ha]; exact h4 a ha e)
 |sema h1 h2 => exact .sema h1 fun a ha => by rw [h a ha]; exact h2 a ha
 |fin h1 h2 => exact .fin h1 fun a ha => by rw [h a ha]; exact h2 a ha
omit [Payload] in
theorem Mo.retag {D : Nat → WD} {tag tag' : Tag} (h : Mo j D tag st sm) (e : tag' = tag ∨ (tag = .blk ∧ tag' = .sm)) : Mo j D tag' st sm := by
 rcases e with rfl | ⟨rfl, rfl⟩
 ·exact h
 ·cases h with
  |opn h1 _ _ => exact h1.elim
  |reg _ h2 h3 => exact .reg trivial h2 h3
  |last L _ h2 h3 h4 => exact .last L trivial h2 h3 h4
  |sema h1 _ => rcases h1 with h1 | h1 <;> cases h1
  |fin h1 _ => exact h1.elim
omit [Payload] in
theorem qh5 {F O : Blocks} {e : Event} (h : EvF F O e) {y : Touch} (hy : (MemAct.ofEvent e).touch? = some y) : y.loc.isMemory = true ∧ y.kind = .plain ∧ qes F y.loc ∧ (y.write = true → qes O y.loc) := by
 obtain ⟨loc, wt, sy⟩ := e
 cases loc with
 |cell b =>
  obtain ⟨h1, h2, h3⟩ := h
  have h1 : sy = false := h1
  subst h1
  rw [ofEvent_cell0] at hy
  simp only [MemAct.touch?, Option.some.injEq] at hy
  subst hy
  exact ⟨rfl, rfl, h2, h3⟩
 |obj r =>
  obtain ⟨h1, h2, h3⟩ := h
  have h1 : sy = false := h1
  subst h1
  have e0 : MemAct.ofEvent ⟨.obj r, wt, false⟩ = .access ⟨.obj r, wt, false⟩ := by cases wt <;> rfl
  rw [e0] at hy
  simp only [MemAct.touch?, Option.some.injEq] at hy
  subst hy
  exact ⟨rfl, rfl, h2, h3⟩
 |mark m =>
  cases m with
  |noRoom => simp [MemAct.ofEvent, MemAct.touch?] at hy
  |_ => exact h.elim
 |_ => exact h.elim
omit [Payload] in
theorem qbd {F O : Blocks} {e : Event} (h : EvF F O e) {B : Nat} (hB : ∀ b, F b → b < B) : e.loc ≠ .mark .disable ∧ e.loc ≠ .mark .enable ∧ e.loc ≠ .mark (.release (stA Wg)) ∧ (MemAct.ofEvent e).low B := by
 have := qm1 (SB := fun _ => False) h (fun _ _ x => x) hB
 refine ⟨this.2.1, this.2.2.1, fun hl => ?_, this.2.2.2⟩
 obtain ⟨loc, wt, sy⟩ := e
 have hl : loc = _ := hl
 subst hl
 exact h
end
section
variable [Payload] {P : Program} {ty : TypeId} {o Wg C n : Nat} {SB : Blocks} {jb : Nat → Blocks → Value → World → Prop} {K : Goroutine → World → Prop} {L0 : Nat} {w0 : World} {gs : Array Goroutine} {w w' : World} {sl : Option (Nat × Nat)} {j : Nat} {D : Nat → WX} {q : Nat → Nat} {tag : Tag} {f0 d0 : Nat} {rk : Rank} {FM OM : Blocks} {a : Goroutine} {t : Trace} {st sm : Int}
omit [Payload] in
theorem Sep.stepW (S : Sep Wg C SB j D FM OM w) {i : Nat} (hi : i < j) {x : WX} (hsz : w.heap.size ≤ w'.heap.size) (hF' : ∀ b, x.F b → (D i).F b ∨ w.heap.size ≤ b) (hO' : ∀ b, x.O b → (D i).O b ∨ w.heap.size ≤ b) (hown : ∀ b, x.O b → x.F b) (hlow : ∀ b, x.F b → b < w'.heap.size) : Sep Wg C SB j (upd D i x) FM OM w' := by
 have lW := S.lW
 have lC := S.lC
 refine ⟨fun i' hi' b hb => ?_, fun i' hi' b hb => ?_, fun i1 i2 h1 h2 hne b hb hb2 => ?_, fun b hb => ?_, fun b hb => ?_, xll S.lW hsz, xll S.lC hsz, fun b hb => xll (S.lS b hb) hsz, S.hCW, S.sW, S.sC⟩
 ·by_cases e : i' = i
  ·subst e
   rw [upd_same] at hb
   refine ⟨hlow b hb, ?_⟩
   rcases hF' b hb with h | h
   ·exact (S.wF i' hi' b h).2
   ·exact ⟨by omega, by omega, fun hs => by have := S.lS b hs; omega⟩
  ·rw [upd_ne D _ e] at hb
   have := S.wF i' hi' b hb
   exact ⟨by omega, this.2⟩
 ·by_cases e : i' = i
  ·subst e; rw [upd_same] at hb ⊢; exact hown b hb
  ·rw [upd_ne D _ e] at hb ⊢; exact S.wO i' hi' b hb
 ·by_cases e1 : i1 = i
  ·subst e1
   rw [upd_same] at hb
   rw [upd_ne D _ (fun h => hne h.symm)] at hb2
   rcases hO' b hb with h | h
   ·exact S.apart _ _ h1 h2 hne b h hb2
   ·have := (S.wF i2 h2 b hb2).1; omega
  ·rw [upd_ne D _ e1] at hb
   by_cases e2 : i2 = i
   ·subst e2
    rw [upd_same] at hb2
    rcases hF' b hb2 with h | h
    ·exact S.apart _ _ h1 h2 hne b hb h
    ·have := (S.wF i1 h1 b (S.wO i1 h1 b hb)).1; omega
   ·rw [upd_ne D _ e2] at hb2
    exact S.apart _ _ h1 h2 hne b hb hb2
 ·have := S.mF b hb
  refine ⟨by omega, this.2.1, this.2.2.1, this.2.2.2.1, fun i' hi' ho => ?_⟩
  by_cases e : i' = i
  ·subst e
   rw [upd_same] at ho
   rcases hO' b ho with h | h
   ·exact this.2.2.2.2 i' hi' h
   ·omega
  ·rw [upd_ne D _ e] at ho
   exact this.2.2.2.2 i' hi' ho
 ·have h1 := S.mO b hb
  have h2 := S.mF b h1.1
  refine ⟨h1.1, fun i' hi' hf => ?_⟩
  by_cases e : i' = i
  ·subst e
   rw [upd_same] at hf
   rcases hF' b hf with h | h
   ·exact h1.2 i' hi' h
   ·omega
  ·rw [upd_ne D _ e] at hf
   exact h1.2 i' hi' hf
omit [Payload] in
theorem Kept.stepW (h : Kept Wg C L0 w0 j D OM w) {i : Nat} {x : WX} (hl0 : L0 ≤ w.heap.size) (hkeep : ∀ b, b < L0 → w'.heap[b]? = w.heap[b]?) (hO' : ∀ b, x.O b → (D i).O b ∨ w.heap.size ≤ b) (ht : w'.tape = w.tape) (hos : w'.os = w.os) (hout : w'.output = w.output) (hnb : NB w → NB w') : Kept Wg C L0 w0 j (upd D i x) OM w' := by
 refine ⟨fun b hb => (hkeep b hb).trans (h.keep b hb), h.lW, h.lC, fun i' hi' b hb => ?_, h.lM, ht.trans h.tape, hos.trans h.os, hout.trans h.output, fun x => hnb (h.nb x)⟩
 by_cases e : i' = i
 ·subst e
  rw [upd_same] at hb
  rcases hO' b hb with y | y
  ·exact h.lO i' hi' b y
  ·omega
 ·rw [upd_ne D _ e] at hb
  exact h.lO i' hi' b hb
theorem q15 (jf : ∀ i F v w w1, jb i F v w → Ext F w w1 → jb i F v w1) (ha : gs[0]? = some a) (hms : MS P ty Wg C n jb K tag f0 d0 rk FM OM a w) (hcom : kz P ty o Wg C n SB jb j gs w t D q d0) (S : Sep Wg C SB j D FM OM w) (hjt : JT n tag j) (hk0 : Kept Wg C L0 w0 j D OM w)
  (hwg : WgAt ty Wg w st sm) (hmode : Mo j (xd D) tag st sm) {i : Nat} (hi : i < j) {g : Goroutine} (hg : gs[o + i]? = some g) (h9 : (D i).stage = 9) (hd : (D i).deaf = 0) {f : World → Rank} (hrk : (D i).rank = .node f)
  (hw : WGo P false (qfh P ty Wg C n jb i) (.node f) (D i).F (D i).O g w) :
  ∃ m₁ ops μ', runT P (crowd gs w sl) (o + i) = (.next m₁, ops) ∧ MLt (n + 1) μ' (psi n (Vc j (xd D)) tag + qah j D, ranks n D rk, f0 + 2 * qbq j D + 2 * sumTo o q) ∧ qhp P ty o Wg C n SB jb K L0 w0 μ' m₁ (t ++ ops) := by
 obtain ⟨F', O', g', w', es, hgo, ok, hw'⟩ := hw.2 w (Ext.refl ..)
 have lW := S.lW
 have lC := S.lC
 have nO : ∀ b, (D i).O b → b ≠ Wg ∧ b ≠ C := fun b hb => ⟨(S.wF i hi b (S.wO i hi b hb)).2.1, (S.wF i hi b (S.wO i hi b hb)).2.2.1⟩
 have hW : w'.heap[Wg]? = w.heap[Wg]? := ok.keep Wg lW fun h => (nO Wg h).1 rfl
 have hC : w'.heap[C]? = w.heap[C]? := ok.keep C lC fun h => (nO C h).2 rfl
 let x : WX := ⟨9, 0, 0, f w, F', O', (D i).val⟩
 have S' : Sep Wg C SB j (upd D i x) FM OM w' := S.stepW hi (x := x) ok.size ok.new ok.qo8 ok.own ok.low
 have hwg' : WgAt ty Wg w' st sm := by unfold WgAt at *; rw [hW]; exact hwg
 refine workerStep jf ha hms hcom S hjt hk0 hi hg hgo (x := x) S' ⟨⟨ok.size, fun b hb => ok.keep b (S.mF b hb).1 ((S.mF b hb).2.2.2.2 i hi)⟩, fun _ => ⟨_, _, hwg'⟩⟩
  (fun i' hi' hne => ⟨⟨ok.size, fun b hb => ok.keep b (S.wF i' hi' b hb).1 fun ho => S.apart i i' hi hi' (fun e => hne e.symm) b ho hb⟩, qsv hW hC⟩)
  (.own rfl rfl rfl hw') ok.size ok.sub ok.q6u ok.new ok.qo8 (fun e he y hy => ?_) (fun e he => (qbd (ok.ev e he) ok.low).2.2.1) (fun e he => qem (qbd (Wg := Wg) (ok.ev e he) ok.low).2.2.2)
  ?_ (fun h => absurd (show 9 ≤ 6 from h) (by decide)) (fun h => absurd (show 9 ≤ 6 from h) (by decide)) ?_ hwg' (fun tag' ht _ => (hmode.congr fun a' _ => ?_).retag ht) ?_ (.inr (.inl ⟨h9.symm, by rw [hrk]; exact ⟨w, rfl⟩⟩))
 ·obtain ⟨h1, h2, h3, h4⟩ := qh5 (ok.ev e he) hy
  refine ⟨h1, .inr ⟨h2, ?_⟩⟩
  by_cases ho : qes O' y.loc
  ·exact .inl ⟨i, hi, rfl, .inl (by rw [upd_same]; exact ho)⟩
  ·refine .inr ⟨⟨i, hi, rfl, ?_⟩, by cases hyw : y.write with | false => rfl | true => exact absurd (h4 hyw) ho⟩
   rw [upd_same]
   show qes (fun b => F' b ∧ ¬ O' b) y.loc
   generalize y.loc = l at h3 ho
   cases l with
   |cell c => exact ⟨h3, ho⟩
   |obj c => exact ⟨h3, ho⟩
   |_ => exact h3.elim
 ·rw [hd]
  exact deafBehind_idle (fun e he => ⟨(qbd (Wg := Wg) (ok.ev e he) ok.low).1, (qbd (Wg := Wg) (ok.ev e he) ok.low).2.1⟩) 0
 ·obtain ⟨cs, h1, h2⟩ := hcom.pay
  exact ⟨cs, by rw [hC]; exact h1, h2⟩
 ·by_cases e : a' = i
  ·subst e; simp only [xd, upd_same, h9, x]
  ·simp only [xd]; rw [upd_ne D _ e]
 ·exact hk0.stepW (x := x) (xlt hk0.lW (Nat.le_of_lt lW)) (fun b hb => ok.keep b (xll hb (xlt hk0.lW (Nat.le_of_lt lW))) fun ho => by have := hk0.lO i hi b ho; omega) ok.qo8 ok.tape ok.os ok.output ok.nb
end
end
section
open Go Go.Conc Go.ConcN Sim
open Go.ConcR (KK WgAt stA smA rd wr mk Payload DC0 g_of_ofEvents Bk bk_of_mute ofEvent_loc_mark ofEvent_cell)
section
variable [Payload] {C n i : Nat} {w : World}
theorem qk8 (hp : PayAt C n w) (v : Value) : AsideCell C n i w (w.setCell ⟨C, i, none⟩ v) := by
 have hA := aside_setCell w ⟨C, i, none⟩ v
 obtain ⟨arr, h1, h2⟩ := hp
 have hb : (w.setCell ⟨C, i, none⟩ v).heap[C]? = some (.cells (arr.setIfInBounds i v) Payload.ety) := by
  rw [setCell_eq_setRow w C i arr _ (0, 0) _ h1, setRow_heap w C _ _ _ _ h1]
 refine ⟨hA.tape, hA.os, hA.output, hA.size, fun b hb' => hA.block b hb', fun _ => ⟨_, hb, by simpa using h2⟩, fun i' hi' => ?_⟩
 simp [World.cell?, hb, h1, xne (Ne.symm hi')]
theorem q1j (hp : PayAt C n w) (hj : i < n) (v : Value) : Has C i v (w.setCell ⟨C, i, none⟩ v) := by
 obtain ⟨arr, h1, h2⟩ := hp
 have hb : (w.setCell ⟨C, i, none⟩ v).heap[C]? = some (.cells (arr.setIfInBounds i v) Payload.ety) := by
  rw [setCell_eq_setRow w C i arr _ (0, 0) _ h1, setRow_heap w C _ _ _ _ h1]
 simp [Has, World.cell?, hb, h2, hj]
omit [Payload] in
theorem q1t {Wg B : Nat} (hW : Wg < B) {e : Event} (h : Bk Wg e) : qea B (MemAct.ofEvent e) := by
 intro y hy
 rcases h with h1 | h1 | ⟨a, wr, rfl, ha⟩
 ·rw [ofEvent_loc_mark h1] at hy; cases hy
 ·rw [ofEvent_loc_mark h1] at hy; cases hy
 ·rw [ofEvent_cell] at hy
  simp only [MemAct.touch?, Option.some.injEq] at hy
  subst hy
  show a.block < B
  omega
end
section
variable [Payload] {P : Program} {ty : TypeId} {o Wg C n : Nat} {SB : Blocks} {jb : Nat → Blocks → Value → World → Prop} {K : Goroutine → World → Prop} {L0 : Nat} {w0 : World} {gs : Array Goroutine} {w w' : World} {sl : Option (Nat × Nat)} {j : Nat} {D : Nat → WX} {q : Nat → Nat} {tag : Tag} {f0 d0 : Nat} {rk : Rank} {FM OM : Blocks} {a : Goroutine} {t : Trace} {st sm : Int}
omit [Payload] in
theorem Sep.same (S : Sep Wg C SB j D FM OM w) {i : Nat} (hi : i < j) {x : WX} (hF : x.F = (D i).F) (hO : x.O = (D i).O) (hsz : w.heap.size ≤ w'.heap.size) : Sep Wg C SB j (upd D i x) FM OM w' :=
 S.stepW hi hsz (fun b hb => .inl (hF ▸ hb)) (fun b hb => .inl (hO ▸ hb)) (fun b hb => by rw [hF]; rw [hO] at hb; exact S.wO i hi b hb) (fun b hb => by rw [hF] at hb; have := (S.wF i hi b hb).1; omega)
theorem quz (jf : ∀ i F v w w1, jb i F v w → Ext F w w1 → jb i F v w1) (ha : gs[0]? = some a) (hms : MS P ty Wg C n jb K tag f0 d0 rk FM OM a w) (hcom : kz P ty o Wg C n SB jb j gs w t D q d0) (S : Sep Wg C SB j D FM OM w) (hjt : JT n tag j) (hk0 : Kept Wg C L0 w0 j D OM w)
  (hwg : WgAt ty Wg w st sm) (hmode : Mo j (xd D) tag st sm) {i : Nat} (hi : i < j) {g : Goroutine} (hg : gs[o + i]? = some g) (h9 : (D i).stage = 9) (hd : (D i).deaf = 0)
  (hs : qfh P ty Wg C n jb i (D i).F (D i).O g w) :
  ∃ m₁ ops μ', runT P (crowd gs w sl) (o + i) = (.next m₁, ops) ∧ MLt (n + 1) μ' (psi n (Vc j (xd D)) tag + qah j D, ranks n D rk, f0 + 2 * qbq j D + 2 * sumTo o q) ∧ qhp P ty o Wg C n SB jb K L0 w0 μ' m₁ (t ++ ops) := by
 obtain ⟨_, v, hres, hx⟩ := hs
 obtain ⟨g', hgo, m, hk⟩ := hx w (Ext.refl ..) hcom.pay ⟨_, _, hwg⟩
 have lW := S.lW
 have lC := S.lC
 have hA : AsideCell C n i w (w.setCell ⟨C, i, none⟩ v) := qk8 hcom.pay v
 let x : WX := ⟨7, m, 0, .leaf, (D i).F, (D i).O, v⟩
 have S' : Sep Wg C SB j (upd D i x) FM OM (w.setCell ⟨C, i, none⟩ v) := S.same hi (x := x) rfl rfl (by rw [hA.size]; exact jy _)
 have hwg' : WgAt ty Wg (w.setCell ⟨C, i, none⟩ v) st sm := hwg.of_block (hA.block Wg (Ne.symm S.hCW))
 have hext : ∀ {F : Blocks}, ¬ F C → Ext F w (w.setCell ⟨C, i, none⟩ v) := fun hn => ⟨by rw [hA.size]; exact jy _, fun b hb => hA.block b fun e => hn (e ▸ hb)⟩
 have hFC : ∀ i', i' < j → ¬ (D i').F C := fun i' hi' h => (S.wF i' hi' C h).2.2.1 rfl
 refine workerStep jf ha hms hcom S hjt hk0 hi hg hgo (x := x) S' ⟨hext fun h => (S.mF C h).2.2.1 rfl, fun _ => ⟨_, _, hwg'⟩⟩
  (fun i' hi' hne => ⟨hext (hFC i' hi'), RW.of_cell hA hne S.hCW⟩)
  (.lib (.r0 hk) (jf _ _ _ _ _ hres (hext (hFC i hi)))) (by rw [hA.size]; exact jy _) (fun _ h => h) (fun _ h => h) (fun _ h => .inl h) (fun _ h => .inl h) (fun e he y hy => ?_) (fun e he => ?_) (fun e he y hy => ?_)
  ?_ (fun h => absurd (show 7 ≤ 6 from h) (by decide)) (fun h => absurd (show 7 ≤ 6 from h) (by decide)) (hA.pay hcom.pay) hwg' (fun tag' ht _ => (hmode.congr fun a' _ => ?_).retag ht) ?_ (.inl ⟨by rw [h9]; exact (by decide : 7 < 9), ?_⟩)
 ·simp only [List.mem_toArray, List.mem_singleton] at he
  subst he
  rw [ofEvent_cell0] at hy
  simp only [MemAct.touch?, Option.some.injEq] at hy
  subst hy
  exact ⟨rfl, .inr ⟨rfl, .inl ⟨i, hi, rfl, .inr rfl⟩⟩⟩
 ·simp only [List.mem_toArray, List.mem_singleton] at he
  subst he
  simp
 ·simp only [List.mem_toArray, List.mem_singleton] at he
  subst he
  rw [ofEvent_cell0] at hy
  simp only [MemAct.touch?, Option.some.injEq] at hy
  subst hy
  show C < _
  rw [hA.size]; exact lC
 ·rw [hd]; rfl
 ·by_cases e : a' = i
  ·subst e; simp only [xd, upd_same, h9, x]; decide
  ·simp only [xd]; rw [upd_ne D _ e]
 ·refine hk0.stepW (x := x) (xlt hk0.lW (Nat.le_of_lt lW)) (fun b hb => hA.block b fun e => ?_) (fun b hb => .inl hb) hA.tape hA.os hA.output (qdi hA.block (let ⟨_, h, _⟩ := hA.pay hcom.pay; ⟨_, _, _, h⟩))
  have := hk0.lC; omega
 ·simp only [xd, upd_same, h9, x]; simp [cnt]
end
theorem qnk (D : Nat → WX) (i : Nat) (x : WX) : xd (upd D i x) = upd (xd D) i ⟨if x.stage = 9 then 7 else x.stage, x.fuel, x.deaf⟩ := by
 funext k
 by_cases e : k = i
 ·subst e; simp only [xd, upd_same]
 ·rw [upd_ne (xd D) _ e]; simp only [xd]; rw [upd_ne D _ e]
theorem JT.bound {n j : Nat} {tag : Tag} (h : JT n tag j) : j + qak tag ≤ n := by
 cases tag <;> simp only [JT, qak] at h ⊢ <;> omega
section
variable {j i : Nat} {D : Nat → WD} {tag : Tag} {st sm : Int}
theorem Mo.same (hm : Mo j D tag st sm) (m' dd' : Nat) : Mo j (upd D i ⟨(D i).stage, m', dd'⟩) tag st sm :=
 hm.congr fun a _ => by
  by_cases e : a = i
  ·subst e; rw [upd_same]
  ·rw [upd_ne D _ e]
theorem Mo.counted (hm : Mo j D tag st sm) (hi : i < j) (h5 : 5 ≤ (D i).stage) {s' : Nat} (hs : s' = 6 ∨ s' = 5) (m' dd' : Nat) : Mo j (upd D i ⟨s', m', dd'⟩) tag st sm := by
 have hv : Vc j (upd D i ⟨s', m', dd'⟩) = Vc j D := by
  have := Vc_upd D (⟨s', m', dd'⟩ : WD) hi
  have c1 : cnt (D i) = 1 := by simp [cnt, h5]
  have c2 : cnt (⟨s', m', dd'⟩ : WD) = 1 := by rcases hs with rfl | rfl <;> simp [cnt]
  omega
 have ho : OpenSt j D → OpenSt j (upd D i ⟨s', m', dd'⟩) := fun h a ha => by
  by_cases e : a = i
  ·subst e; rw [upd_same]; rcases hs with rfl | rfl <;> simp
  ·rw [upd_ne D _ e]; exact h a ha
 cases hm with
 |opn h1 h2 h3 => rw [← hv]; exact .opn h1 (ho h2) (fun vs e => by rw [hv]; exact h3 vs e)
 |reg h1 h2 h3 => rw [← hv]; exact .reg h1 (ho h2) (by rw [hv]; exact h3)
 |last L h1 h2 h3 h4 =>
  by_cases e : i = L
  ·subst e; omega
  ·have := h4 i hi e; omega
 |sema _ h2 => have := h2 i hi; omega
 |fin h1 h2 => have := h2 i hi; omega
theorem Mo.isLast (hm : Mo j D tag st sm) (hi : i < j) (h : (D i).stage = 4 ∨ (D i).stage = 3 ∨ (D i).stage = 2) :
  qxi tag ∧ (∀ a, a < j → a ≠ i → (D a).stage = 1) ∧ st = (if (D i).stage = 2 then 0 else 1) ∧ sm = 0 := by
 cases hm with
 |opn _ h2 _ => have := h2 i hi; omega
 |reg _ h2 _ => have := h2 i hi; omega
 |last L h1 h2 h3 h4 =>
  by_cases e : i = L
  ·subst e; exact ⟨h1, h4, rfl, rfl⟩
  ·have := h4 i hi e; omega
 |sema _ h2 => have := h2 i hi; omega
 |fin _ h2 => have := h2 i hi; omega
end
section
variable [Payload] {P : Program} {ty : TypeId} {o Wg C n : Nat} {SB : Blocks} {jb : Nat → Blocks → Value → World → Prop} {K : Goroutine → World → Prop} {L0 : Nat} {w0 : World} {gs : Array Goroutine} {w w' : World} {sl : Option (Nat × Nat)} {j : Nat} {D : Nat → WX} {q : Nat → Nat} {tag : Tag} {f0 d0 : Nat} {rk : Rank} {FM OM : Blocks} {a : Goroutine} {t : Trace} {st sm : Int}
omit [Payload] in
theorem qu2 {x : Event} (h : Bk Wg x) {y : Touch} (hy : (MemAct.ofEvent x).touch? = some y) : y.loc.isMemory = true ∧ ShP Wg SB y.loc ∧ y.kind = .atomic := by
 rcases h with h1 | h1 | ⟨b, wr, rfl, hb⟩
 ·rw [ofEvent_loc_mark h1] at hy; cases hy
 ·rw [ofEvent_loc_mark h1] at hy; cases hy
 ·rw [ofEvent_cell] at hy
  simp only [MemAct.touch?, Option.some.injEq] at hy
  subst hy
  exact ⟨rfl, ⟨b, rfl, .inr hb⟩, rfl⟩
theorem q1q (jf : ∀ i F v w w1, jb i F v w → Ext F w w1 → jb i F v w1) (hn : n < 2147483648) (ha : gs[0]? = some a) (hms : MS P ty Wg C n jb K tag f0 d0 rk FM OM a w) (hcom : kz P ty o Wg C n SB jb j gs w t D q d0) (S : Sep Wg C SB j D FM OM w) (hjt : JT n tag j) (hk0 : Kept Wg C L0 w0 j D OM w)
  (hwg : WgAt ty Wg w st sm) (hmode : Mo j (xd D) tag st sm) {i : Nat} (hi : i < j) {g : Goroutine} (hg : gs[o + i]? = some g) (hrun : g.status = .running)
  (hs : WSit P ty Wg C n qck qck 0 (i + 1) (D i).val (D i).stage (D i).fuel (D i).deaf g w) (hres : jb i (D i).F (D i).val w) :
  ∃ m₁ ops μ', runT P (crowd gs w sl) (o + i) = (.next m₁, ops) ∧ MLt (n + 1) μ' (psi n (Vc j (xd D)) tag + qah j D, ranks n D rk, f0 + 2 * qbq j D + 2 * sumTo o q) ∧ qhp P ty o Wg C n SB jb K L0 w0 μ' m₁ (t ++ ops) := by
 have lW := S.lW
 have lC := S.lC
 have hCW := S.hCW
 have hop := hcom.qke
 have hb := hjt.bound
 have hVj := Vc_le j (xd D)
 have kL := hk0.lW
 have kC := hk0.lC
 have mW : ¬ FM Wg := fun h => (S.mF Wg h).2.1 rfl
 have mC : ¬ FM C := fun h => (S.mF C h).2.2.1 rfl
 have wW : ∀ i', i' < j → ¬ (D i').F Wg := fun i' h' h => (S.wF i' h' Wg h).2.1 rfl
 have wC : ∀ i', i' < j → ¬ (D i').F C := fun i' h' h => (S.wF i' h' C h).2.2.1 rfl
 generalize hst : (D i).stage = s at hs
 generalize hfu : (D i).fuel = m at hs
 generalize hde : (D i).deaf = dd at hs
 have hdk : Deaf t (o + i) = dd := by rw [hcom.deafW i hi, hde]
 have xs9 : s ≠ 9 := by rintro rfl; cases hs
 have xst : (xd D i).stage = s := by simp only [xd, hst]; rw [if_neg xs9]
 have xfu : (xd D i).fuel = m := hfu
 have xde : (xd D i).deaf = dd := hde
 -- A STEP OF THE LIBRARY's BOOKKEEPING: at most the group's block turns
 have bookG : ∀ {g' : Goroutine} {w' : World} {es : Array Event} {s' m' dd' : Nat} {st' sm' : Int}, stepG P false g w = .go g' w' es → Aside Wg w w' → WgAt ty Wg w' st' sm' → (∀ e ∈ es, Bk Wg e) →
   (∀ jx e, es[jx]? = some e → (MemAct.ofEvent e).touch? = none ∨ 0 < deafBehind dd (es.extract 0 jx)) → WSit P ty Wg C n qck qck 0 (i + 1) (D i).val s' m' dd' g' w' → deafBehind dd es = dd' → s ≤ 6 → s' ≤ 7 →
   (∀ tag', (tag' = tag ∨ (tag = .blk ∧ tag' = .sm)) → (mayWake P g = true → g'.status = .running → tag' ≠ .blk) → Mo j (upd (xd D) i ⟨s', m', dd'⟩) tag' st' sm') → ((s' < s ∧ cnt ⟨s', m', dd'⟩ ≤ cnt (xd D i)) ∨ (s' = s ∧ m' + 1 = m)) →
   ∃ m₁ ops μ', runT P (crowd gs w sl) (o + i) = (.next m₁, ops) ∧ MLt (n + 1) μ' (psi n (Vc j (xd D)) tag + qah j D, ranks n D rk, f0 + 2 * qbq j D + 2 * sumTo o q) ∧ qhp P ty o Wg C n SB jb K L0 w0 μ' m₁ (t ++ ops) := by
  intro g' w' es s' m' dd' st' sm' hgo hAs hwg' hbk hd hs' hdd h6 h7 hmode' hlt
  obtain ⟨cs, hcs1, hcs2⟩ := hcom.pay
  have hsz : w.heap.size ≤ w'.heap.size := by rw [hAs.size]; exact jy _
  have hext : ∀ {F : Blocks}, ¬ F Wg → Ext F w w' := fun hn => ⟨hsz, fun b hb => hAs.block b fun e => hn (e ▸ hb)⟩
  let x : WX := ⟨s', m', dd', (D i).rank, (D i).F, (D i).O, (D i).val⟩
  have ex : xd (upd D i x) = upd (xd D) i ⟨s', m', dd'⟩ := by rw [qnk]; show upd (xd D) i (⟨if s' = 9 then 7 else s', m', dd'⟩ : WD) = _; rw [if_neg (by omega)]
  refine workerStep jf ha hms hcom S hjt hk0 hi hg hgo (x := x) (S.same hi rfl rfl hsz) ⟨hext mW, fun _ => ⟨_, _, hwg'⟩⟩ (fun i' hi' hne => ⟨hext (wW i' hi'), RW.of_wg hAs ⟨_, _, hwg'⟩ hCW⟩)
   (.lib hs' (jf _ _ _ _ _ hres (hext (wW i hi)))) hsz (fun _ h => h) (fun _ h => h) (fun _ h => .inl h) (fun _ h => .inl h)
   (fun e he y hy => let ⟨h1, h2, h3⟩ := qu2 (hbk e he) hy; ⟨h1, .inl ⟨h2, h3⟩⟩) (fun e he => (norel_of_Bk hbk) e he) (fun e he => q1t (by omega) (hbk e he))
   (by rw [hde]; exact hdd) (fun _ => let ⟨r, hr⟩ := hcom.rel i hi (by omega); ⟨r, hr.book hdk _ _ hbk hd⟩) (fun _ => (cell_of_block (hAs.block C hCW) i).trans (hcom.has i hi (by omega))) ⟨cs, (hAs.block C hCW).trans hcs1, hcs2⟩ hwg'
   (fun tag' ht hw => by rw [ex]; exact hmode' tag' ht hw) (hk0.stepW (by omega) (fun b hb => hAs.block b (by omega)) (fun _ h => .inl h) hAs.tape hAs.os hAs.output (qdi hAs.block ⟨_, _, _, hwg'⟩)) ?_
  rcases hlt with ⟨h1, h2⟩ | ⟨h1, h2⟩
  ·refine .inl ⟨by rw [hst]; exact h1, ?_⟩
   rw [ex, upd_same]; exact h2
  ·exact .inr (.inr ⟨by rw [hst]; exact h1, rfl, by rw [hfu]; exact h2⟩)
 have book : ∀ {g' : Goroutine} {w' : World} {es : Array Event} {s' m' dd' : Nat} {st' sm' : Int}, stepG P false g w = .go g' w' es → Aside Wg w w' → WgAt ty Wg w' st' sm' → (∀ e ∈ es, Bk Wg e) →
   (∀ jx e, es[jx]? = some e → (MemAct.ofEvent e).touch? = none ∨ 0 < deafBehind dd (es.extract 0 jx)) → WSit P ty Wg C n qck qck 0 (i + 1) (D i).val s' m' dd' g' w' → deafBehind dd es = dd' → s ≤ 6 → s' ≤ 7 →
   Mo j (upd (xd D) i ⟨s', m', dd'⟩) tag st' sm' → ((s' < s ∧ cnt ⟨s', m', dd'⟩ ≤ cnt (xd D i)) ∨ (s' = s ∧ m' + 1 = m)) →
   ∃ m₁ ops μ', runT P (crowd gs w sl) (o + i) = (.next m₁, ops) ∧ MLt (n + 1) μ' (psi n (Vc j (xd D)) tag + qah j D, ranks n D rk, f0 + 2 * qbq j D + 2 * sumTo o q) ∧ qhp P ty o Wg C n SB jb K L0 w0 μ' m₁ (t ++ ops) :=
  fun hgo hAs hwg' hbk hd hs' hdd h6 h7 hmode' hlt => bookG hgo hAs hwg' hbk hd hs' hdd h6 h7 (fun _ ht _ => hmode'.retag ht) hlt
 -- AN IDLE STEP BEHIND THE RELEASE: nothing turns, nothing is listed
 have idle : ∀ {g' : Goroutine} {m' : Nat}, stepG P false g w = .go g' w #[] → WSit P ty Wg C n qck qck 0 (i + 1) (D i).val s m' dd g' w → m' + 1 = m → s ≤ 6 →
   ∃ m₁ ops μ', runT P (crowd gs w sl) (o + i) = (.next m₁, ops) ∧ MLt (n + 1) μ' (psi n (Vc j (xd D)) tag + qah j D, ranks n D rk, f0 + 2 * qbq j D + 2 * sumTo o q) ∧ qhp P ty o Wg C n SB jb K L0 w0 μ' m₁ (t ++ ops) := by
  intro g' m' hgo hs' hm h6
  exact book hgo (.refl Wg w) hwg (by simp) (by simp) hs' rfl h6 (by omega) (by have := hmode.same (i := i) m' dd; rwa [xst] at this) (.inr ⟨rfl, hm⟩)
 cases hs with
 |r0 h =>
  rcases Goes.cases h with hstop | ⟨m', rfl, hstep⟩
  ·obtain ⟨_, hhas, g', hgo, m₂, hk⟩ := hstop w (RW.refl w)
   let x : WX := ⟨6, m₂, 0, (D i).rank, (D i).F, (D i).O, (D i).val⟩
   have ex : xd (upd D i x) = upd (xd D) i ⟨6, m₂, 0⟩ := by rw [qnk]; rfl
   refine workerStep jf ha hms hcom S hjt hk0 hi hg hgo (x := x) (S.same hi rfl rfl (jy _)) (jl w) (fun i' hi' hne => ⟨Ext.refl .., RW.refl w⟩)
    (.lib (.k1 hk) hres) (jy _) (fun _ h => h) (fun _ h => h) (fun _ h => .inl h) (fun _ h => .inl h)
    (fun e he y hy => by simp at he; subst he; cases hy) (fun e he => by simp at he; subst he; simp [mk]) (fun e he y hy => by simp at he; subst he; cases hy)
    (by rw [hde]; rfl) (fun _ => ⟨t.size, RelBy.new hdk _ _⟩) (fun _ => by simpa using hhas) hcom.pay hwg
    (fun tag' ht hw => by rw [ex]; exact (hmode.counted hi (by omega) (.inl rfl) _ _).retag ht) (hk0.stepW (by omega) (fun _ _ => rfl) (fun _ h => .inl h) rfl rfl rfl id) (.inl ⟨by rw [hst]; exact (by decide : 6 < 7), ?_⟩)
   rw [ex, upd_same]
   simp [cnt, xst]
  ·obtain ⟨g', w', es, hgo, ⟨hac, hev⟩, hg'⟩ := hstep w (RW.refl w)
   simp only [Nat.add_sub_cancel] at hac
   have hsz : w.heap.size ≤ w'.heap.size := by rw [hac.size]; exact jy _
   have hext : ∀ {F : Blocks}, ¬ F C → Ext F w w' := fun hn => ⟨hsz, fun b hb => hac.block b fun e => hn (e ▸ hb)⟩
   have hwg' : WgAt ty Wg w' st sm := hwg.of_block (hac.block Wg (Ne.symm hCW))
   have tch : ∀ e ∈ es, ∀ y, (MemAct.ofEvent e).touch? = some y → ∃ b, y.loc = .cell b ∧ b.block = Wg ∧ y.kind = .atomic := fun e he y hy => by
    rcases ((hev e he).1 (0 : Nat) "").2 y hy with ⟨⟨b, h1, h2⟩, h3, h4⟩ | h1 | ⟨h1, _⟩
    ·refine ⟨b, h1, h2, ?_⟩
     cases hk : y.kind with
     |atomic => rfl
     |plain => exact absurd hk h3
     |said => exact absurd hk h4
    ·exact h1.elim
    ·exact h1.elim
   let x : WX := ⟨7, m', 0, (D i).rank, (D i).F, (D i).O, (D i).val⟩
   have ex : xd (upd D i x) = upd (xd D) i ⟨7, m', 0⟩ := by rw [qnk]; rfl
   refine workerStep jf ha hms hcom S hjt hk0 hi hg hgo (x := x) (S.same hi rfl rfl hsz) ⟨hext mC, fun _ => ⟨_, _, hwg'⟩⟩ (fun i' hi' hne => ⟨hext (wC i' hi'), RW.of_cell hac hne hCW⟩)
    (.lib (.r0 hg') (jf _ _ _ _ _ hres (hext (wC i hi)))) hsz (fun _ h => h) (fun _ h => h) (fun _ h => .inl h) (fun _ h => .inl h)
    (fun e he y hy => ?_) (fun e he => (hev e he).2.2.2) (fun e he y hy => ?_)
    (by rw [hde]; exact deafBehind_idle (fun e he => ⟨(hev e he).2.1, (hev e he).2.2.1⟩) 0) (fun h => absurd (show 7 ≤ 6 from h) (by decide)) (fun h => absurd (show 7 ≤ 6 from h) (by decide)) (hac.pay hcom.pay) hwg'
    (fun tag' ht hw => by rw [ex]; exact Mo.retag (by have := hmode.same (i := i) m' 0; rwa [xst] at this) ht) (hk0.stepW (by omega) (fun b hb => hac.block b (by omega)) (fun _ h => .inl h) hac.tape hac.os hac.output (qdi hac.block (let ⟨_, h, _⟩ := hac.pay hcom.pay; ⟨_, _, _, h⟩)))
    (.inr (.inr ⟨hst.symm, rfl, hfu.symm⟩))
   ·obtain ⟨b, h1, h2, h3⟩ := tch e he y hy
    rw [h1]
    exact ⟨rfl, .inl ⟨⟨b, rfl, .inr h2⟩, h3⟩⟩
   ·obtain ⟨b, h1, h2, h3⟩ := tch e he y hy
    rw [h1]
    show b.block < _
    omega
 |k1 h =>
  rcases Goes.cases h with hstop | ⟨m', rfl, hstep⟩
  ·obtain ⟨_, g', hgo, m₂, hk⟩ := hstop w (RW.refl w)
   exact book hgo (.refl Wg w) hwg (by intro e he; simp at he; subst he; exact .inl rfl) (by intro jx e he; exact .inl (by have := Array.mem_of_getElem? he; simp at this; subst this; rfl)) (.d1 hk) rfl (by omega) (by omega)
    (hmode.counted hi (by omega) (.inr rfl) _ _) (.inl ⟨by omega, by simp [cnt, xst]⟩)
  ·obtain ⟨g', w', es, hgo, ⟨rfl, rfl⟩, hg'⟩ := hstep w (RW.refl w)
   exact idle hgo (.k1 hg') rfl (by omega)
 |d1 h =>
  rcases Goes.cases h with hstop | ⟨m', rfl, hstep⟩
  ·obtain ⟨_, hall⟩ := hstop w (RW.refl w)
   have hc1 : cnt (xd D i) = 1 := by simp [cnt, xst]
   have hV1 : 1 ≤ Vc j (xd D) := by have := le_sumTo (f := fun x => cnt (xd D x)) hi; simp only [Vc]; omega
   have bk2 : ∀ e ∈ #[rd (stA Wg), wr (stA Wg)], Bk Wg e := by intro e he; simp at he; rcases he with rfl | rfl <;> exact bk_cell _ _ rfl
   have df2 : ∀ jx e, (#[rd (stA Wg), wr (stA Wg)] : Array Event)[jx]? = some e → (MemAct.ofEvent e).touch? = none ∨ 0 < deafBehind 1 ((#[rd (stA Wg), wr (stA Wg)] : Array Event).extract 0 jx) := by
    intro jx e he
    match jx, he with
    |0, _ => exact .inr (by simp [deafBehind])
    |1, _ => exact .inr (by simp [deafBehind, rd])
    |jx + 2, he => simp at he
   have hq0 : ∀ q, cnt (⟨1, q, 1⟩ : WD) = 0 := fun _ => rfl
   have opq : ∀ q, OpenSt j (xd D) → OpenSt j (upd (xd D) i ⟨1, q, 1⟩) := fun q h a ha => by
    by_cases e : a = i
    ·subst e; rw [upd_same]; simp
    ·rw [upd_ne (xd D) _ e]; exact h a ha
   cases hmode with
   |opn h1 h2 h3 =>
    obtain ⟨v, hv⟩ : ∃ v, Vc j (xd D) + qak tag = v + 1 := ⟨Vc j (xd D) + qak tag - 1, by omega⟩
    rw [hv] at hwg
    have hw1 : WgAt ty Wg w (((v : Nat) + 1) * KK + ((0 : Nat) : Int)) 0 := by simpa using hwg
    obtain ⟨g', hgo, _, hq⟩ := hall v 0 (by omega) (by omega) hw1
    obtain ⟨q, hq⟩ := hq (by omega)
    have hv' : Vc j (upd (xd D) i ⟨1, q, 1⟩) + qak tag = v := by have := Vc_upd (xd D) (⟨1, q, 1⟩ : WD) hi; have := hq0 q; omega
    refine book hgo (aside_setCell w (stA Wg) _) (hwg.setSt _) bk2 df2 (.quit hq) rfl (by omega) (by omega) ?_ (.inl ⟨by omega, by simp [cnt]⟩)
    have e : ((v : Nat) : Int) * KK + ((0 : Nat) : Int) = ((Vc j (upd (xd D) i ⟨1, q, 1⟩) + qak tag : Nat) : Int) * KK := by rw [hv']; simp
    rw [e]
    exact .opn h1 (opq q h2) (fun vs ev => by have := h3 vs ev; omega)
   |reg h1 h2 h3 =>
    obtain ⟨v, hv⟩ : ∃ v, Vc j (xd D) = v + 1 := ⟨Vc j (xd D) - 1, by omega⟩
    rw [hv] at hwg
    have hp : qak tag = 0 := by cases tag <;> first | rfl | exact h1.elim
    have hw1 : WgAt ty Wg w (((v : Nat) + 1) * KK + ((1 : Nat) : Int)) 0 := by simpa using hwg
    obtain ⟨g', hgo, hl, hq⟩ := hall v 1 (by omega) (by omega) hw1
    by_cases hv0 : v = 0
    ·subst hv0
     obtain ⟨m₂, hk⟩ := hl ⟨rfl, rfl⟩
     refine book hgo (aside_setCell w (stA Wg) _) (hwg.setSt _) bk2 df2 (.d2 hk) rfl (by omega) (by omega) ?_ (.inl ⟨by omega, by simp [cnt]⟩)
     have hoth : ∀ a, a < j → a ≠ i → (xd D a).stage = 1 := fun a ha e => by
      have c0 := others_uncounted hi hv hc1 a ha e
      have := h2 a ha
      simp only [cnt] at c0
      split at c0 <;> omega
     have := Mo.last (j := j) (D := upd (xd D) i ⟨4, m₂, 1⟩) (tag := tag) i h1 hi (by rw [upd_same]; simp) (fun a ha e => by rw [upd_ne (xd D) _ e]; exact hoth a ha e)
     rw [upd_same] at this
     simpa using this
    ·obtain ⟨q, hq⟩ := hq (by omega)
     have hv' : Vc j (upd (xd D) i ⟨1, q, 1⟩) = v := by have := Vc_upd (xd D) (⟨1, q, 1⟩ : WD) hi; have := hq0 q; omega
     refine book hgo (aside_setCell w (stA Wg) _) (hwg.setSt _) bk2 df2 (.quit hq) rfl (by omega) (by omega) ?_ (.inl ⟨by omega, by simp [cnt]⟩)
     have e : ((v : Nat) : Int) * KK + ((1 : Nat) : Int) = ((Vc j (upd (xd D) i ⟨1, q, 1⟩) : Nat) : Int) * KK + 1 := by rw [hv']; simp
     rw [e]
     exact .reg h1 (opq q h2) (by omega)
   |last L _ h2 h3 h4 =>
    by_cases e : i = L
    ·subst e; omega
    ·have := h4 i hi e; omega
   |sema _ h2 => have := h2 i hi; omega
   |fin _ h2 => have := h2 i hi; omega
  ·obtain ⟨g', w', es, hgo, ⟨rfl, rfl⟩, hg'⟩ := hstep w (RW.refl w)
   exact idle hgo (.d1 hg') rfl (by omega)
 |d2 h =>
  rcases Goes.cases h with hstop | ⟨m', rfl, hstep⟩
  ·obtain ⟨_, hx⟩ := hstop w (RW.refl w)
   obtain ⟨hW3, hoth, rfl, rfl⟩ := hmode.isLast hi (by omega)
   simp only [xst] at hwg
   obtain ⟨g', hgo, m₂, hk⟩ := hx (by simpa using hwg)
   refine book hgo (.refl Wg w) hwg (by intro e he; simp at he; subst he; exact bk_cell _ _ rfl) (by intro jx e he; match jx, he with | 0, _ => exact .inr (by simp [deafBehind]) | jx + 1, he => simp at he) (.d3 hk) rfl (by omega) (by omega) ?_ (.inl ⟨by omega, by simp [cnt]⟩)
   have := Mo.last (j := j) (D := upd (xd D) i ⟨3, m₂, 1⟩) (tag := tag) i hW3 hi (by rw [upd_same]; simp) (fun a ha e => by rw [upd_ne (xd D) _ e]; exact hoth a ha e)
   rw [upd_same] at this
   simpa using this
  ·obtain ⟨g', w', es, hgo, ⟨rfl, rfl⟩, hg'⟩ := hstep w (RW.refl w)
   exact idle hgo (.d2 hg') rfl (by omega)
 |d3 h =>
  rcases Goes.cases h with hstop | ⟨m', rfl, hstep⟩
  ·obtain ⟨_, hx⟩ := hstop w (RW.refl w)
   obtain ⟨hW3, hoth, rfl, rfl⟩ := hmode.isLast hi (by omega)
   simp only [xst] at hwg
   obtain ⟨g', hgo, m₂, hk⟩ := hx (by simpa using hwg)
   refine book hgo (aside_setCell w (stA Wg) _) (hwg.setSt 0) (by intro e he; simp at he; subst he; exact bk_cell _ _ rfl) (by intro jx e he; match jx, he with | 0, _ => exact .inr (by simp [deafBehind]) | jx + 1, he => simp at he) (.d4 hk) rfl (by omega) (by omega) ?_ (.inl ⟨by omega, by simp [cnt]⟩)
   have := Mo.last (j := j) (D := upd (xd D) i ⟨2, m₂, 1⟩) (tag := tag) i hW3 hi (by rw [upd_same]; simp) (fun a ha e => by rw [upd_ne (xd D) _ e]; exact hoth a ha e)
   rw [upd_same] at this
   simpa using this
  ·obtain ⟨g', w', es, hgo, ⟨rfl, rfl⟩, hg'⟩ := hstep w (RW.refl w)
   exact idle hgo (.d3 hg') rfl (by omega)
 |d4 h =>
  rcases Goes.cases h with hstop | ⟨m', rfl, hstep⟩
  ·obtain ⟨_, hmw, hx⟩ := hstop w (RW.refl w)
   obtain ⟨hW3, hoth, rfl, rfl⟩ := hmode.isLast hi (by omega)
   simp only [xst] at hwg
   obtain ⟨g', hgo, q, hq⟩ := hx (by simpa using hwg)
   have hrun' : g'.status = .running := by
    cases q with
    |zero => exact absurd hq.2 (by decide)
    |succ q => exact hq.elim (fun x => absurd x.2 (by decide)) (fun x => x.1)
   refine bookG hgo (aside_setCell w (smA Wg) _) (hwg.setSm 1) (es := semEvents (smA Wg)) bk_sem ?_ (.quit hq) (by simp [deafBehind, semEvents]) (by omega) (by omega) ?_ (.inl ⟨by omega, by simp [cnt]⟩)
   ·intro jx e he
    match jx, he with
    |0, he => simp [semEvents] at he; subst he; exact .inl rfl
    |1, _ => exact .inr (by simp [deafBehind, semEvents])
    |2, _ => exact .inr (by simp [deafBehind, semEvents])
    |3, he => simp [semEvents] at he; subst he; exact .inl rfl
    |jx + 4, he => simp [semEvents] at he
   ·intro tag' ht hw
    have hnb := hw hmw hrun'
    have e3 : tag' = .sm ∨ tag' = .ws := by
     rcases ht with rfl | ⟨_, rfl⟩
     ·cases tag' <;> first | exact .inl rfl | exact .inr rfl | exact hW3.elim | exact absurd rfl hnb
     ·exact .inl rfl
    have hq' : AllQuit j (upd (xd D) i ⟨1, q, 1⟩) := fun a ha => by
     by_cases e : a = i
     ·subst e; rw [upd_same]
     ·rw [upd_ne (xd D) _ e]; exact hoth a ha e
    simp only [if_true]
    exact .sema e3.symm hq'
  ·obtain ⟨g', w', es, hgo, ⟨rfl, rfl⟩, hg'⟩ := hstep w (RW.refl w)
   exact idle hgo (.d4 hg') rfl (by omega)
 |quit h =>
  cases m with
  |zero => rw [h.1] at hrun; cases hrun
  |succ q =>
   rcases h with ⟨hf, _⟩ | ⟨_, g', es, hmute, hstep, hq⟩
   ·rw [hf] at hrun; cases hrun
   ·have hbk : ∀ e ∈ es, Bk Wg e := fun e he => bk_of_mute (hmute e he)
    have hno : ∀ jx e, es[jx]? = some e → (MemAct.ofEvent e).touch? = none ∨ 0 < deafBehind dd (es.extract 0 jx) := fun jx e he => .inl (touch_mute (hmute e (Array.mem_of_getElem? he)))
    exact book (hstep w) (.refl Wg w) hwg hbk hno (.quit hq) rfl (by omega) (by omega) (by have := hmode.same (i := i) q (deafBehind dd es); rwa [xst] at this) (.inr ⟨rfl, rfl⟩)
end
end
section
open Go Go.Conc Go.ConcN Sim
open Go.ConcN.Gen (ev0_said_read ev0_said_write)
open Go.ConcR (KK WgAt stA smA rd wr mk Payload DC0 g_of_ofEvents Bk bk_of_mute ofEvent_loc_mark ofEvent_cell)
theorem MLt.lt1 {N : Nat} {a b c : Mea} (h : MLt N a b) (k : b.1 < c.1) : MLt N a c := by
 obtain ⟨a1, a2⟩ := a
 obtain ⟨b1, b2⟩ := b
 obtain ⟨c1, c2⟩ := c
 simp only at k
 rcases Prod.lex_def.1 h with h | ⟨h, _⟩
 ·simp only at h; exact Prod.Lex.left _ _ (by omega)
 ·simp only at h; exact Prod.Lex.left _ _ (by omega)
section
variable [Payload] (P : Program) (ty : TypeId) (o Wg C n : Nat) (SB : Blocks) (jb : Nat → Blocks → Value → World → Prop) (K : Goroutine → World → Prop) (L0 : Nat) (w0 : World)
def Out (gs : Array Goroutine) (w : World) (sl : Option (Nat × Nat)) (t : Trace) (k : Nat) (μ : Mea) : Prop :=
 ∃ m₁ ops μ', runT P (crowd gs w sl) k = (.next m₁, ops) ∧ MLt (n + 1) μ' μ ∧ qhp P ty o Wg C n SB jb K L0 w0 μ' m₁ (t ++ ops)
end
section
variable {j : Nat} {D : Nat → WD} {tag tag' : Tag} {st sm : Int}
theorem Mo.reopen (hm : Mo j D tag st sm) (h : qi2 tag) (h' : qi2 tag') (hp : qak tag' = qak tag) (hw : ∀ vs, tag' = .cs vs → Vc j D ≤ vs ∧ 1 ≤ vs) : Mo j D tag' st sm := by
 cases hm with
 |opn _ h2 _ => rw [← hp]; exact .opn h' h2 hw
 |reg h1 _ _ => cases tag <;> first | exact h.elim | exact h1.elim
 |last L h1 _ _ _ => cases tag <;> first | exact h.elim | exact h1.elim
 |sema h1 _ => rcases h1 with rfl | rfl <;> exact h.elim
 |fin h1 _ => cases tag <;> first | exact h.elim | exact h1.elim
theorem Mo.open_inv (hm : Mo j D tag st sm) (h : qi2 tag) : OpenSt j D ∧ st = ((Vc j D + qak tag : Nat) : Int) * KK ∧ sm = 0 ∧ ∀ vs, tag = .cs vs → Vc j D ≤ vs ∧ 1 ≤ vs := by
 cases hm with
 |opn _ h2 h3 => exact ⟨h2, rfl, rfl, h3⟩
 |reg h1 _ _ => cases tag <;> first | exact h.elim | exact h1.elim
 |last L h1 _ _ _ => cases tag <;> first | exact h.elim | exact h1.elim
 |sema h1 _ => rcases h1 with rfl | rfl <;> exact h.elim
 |fin h1 _ => cases tag <;> first | exact h.elim | exact h1.elim
theorem Mo.fin_inv (hm : Mo j D tag st sm) (h : qxh tag) : AllQuit j D ∧ st = 0 ∧ sm = 0 := by
 cases hm with
 |opn h1 _ _ => cases tag <;> first | exact h.elim | exact h1.elim
 |reg h1 _ _ => cases tag <;> first | exact h.elim | exact h1.elim
 |last L h1 _ _ _ => cases tag <;> first | exact h.elim | exact h1.elim
 |sema h1 _ => rcases h1 with rfl | rfl <;> exact h.elim
 |fin _ h2 => exact ⟨h2, rfl, rfl⟩
end
section
variable [Payload] {P : Program} {ty : TypeId} {o Wg C n : Nat} {SB : Blocks} {jb : Nat → Blocks → Value → World → Prop} {K : Goroutine → World → Prop} {L0 : Nat} {w0 : World} {gs : Array Goroutine} {w w' : World} {sl : Option (Nat × Nat)} {j : Nat} {D : Nat → WX} {q : Nat → Nat} {tag tag' : Tag} {f0 f' d0 : Nat} {rk rk' : Rank} {FM OM FM' OM' : Blocks} {a a' : Goroutine} {t : Trace} {st sm st' sm' : Int} {es : Array Event}
omit [Payload] in
theorem Sep.none (S : Sep Wg C SB j D FM OM w) : Sep Wg C SB j D FM (fun _ => False) w := ⟨S.wF, S.wO, S.apart, S.mF, fun _ h => h.elim, S.lW, S.lC, S.lS, S.hCW, S.sW, S.sC⟩
omit [Payload] in
theorem Sep.size (S : Sep Wg C SB j D FM OM w) (h : w.heap.size ≤ w'.heap.size) : Sep Wg C SB j D FM OM w' :=
 ⟨fun i hi b hb => let x := S.wF i hi b hb; ⟨xll x.1 h, x.2⟩, S.wO, S.apart, fun b hb => let x := S.mF b hb; ⟨xll x.1 h, x.2⟩, S.mO, xll S.lW h, xll S.lC h, fun b hb => xll (S.lS b hb) h, S.hCW, S.sW, S.sC⟩
omit [Payload] in
theorem Kept.none (h : Kept Wg C L0 w0 j D OM w) : Kept Wg C L0 w0 j D (fun _ => False) w := ⟨h.keep, h.lW, h.lC, h.lO, fun _ h => h.elim, h.tape, h.os, h.output, h.nb⟩
omit [Payload] in
theorem Kept.wg (h : Kept Wg C L0 w0 j D OM w) (hA : Aside Wg w w') (hg : WgAt ty Wg w' st' sm') : Kept Wg C L0 w0 j D OM w' :=
 ⟨fun b hb => (hA.block b (by have := h.lW; omega)).trans (h.keep b hb), h.lW, h.lC, h.lO, h.lM, hA.tape.trans h.tape, hA.os.trans h.os, hA.output.trans h.output, fun x => qdi hA.block ⟨_, _, _, hg⟩ (h.nb x)⟩
omit [Payload] in
theorem qf8 {fn : FuncId} {pos : String} (h : ∀ e ∈ es, ∀ y, (MemAct.ofEvent e).touch? = some y → ∃ b, y.loc = .cell b ∧ b.block = Wg ∧ y.kind ≠ .plain) : ∀ op ∈ MemOp.ofEvents 0 fn pos es, Ok0 (ShP Wg SB) (qgf o C j D) (RdD o j D) (o - 1 + j) op := by
 intro op hop
 obtain ⟨e, he, rfl⟩ := Go.Conc.mem_ofEvents hop
 refine ⟨rfl, fun y hy => ?_⟩
 obtain ⟨b, h1, h2, h3⟩ := h e he y hy
 exact .inl ⟨h1 ▸ ⟨b, rfl, .inr h2⟩, h3⟩
omit [Payload] in
theorem qag (h : ∀ e ∈ es, Bk Wg e) : ∀ e ∈ es, ∀ y, (MemAct.ofEvent e).touch? = some y → ∃ b, y.loc = .cell b ∧ b.block = Wg ∧ y.kind ≠ .plain := by
 intro e he y hy
 rcases h e he with h1 | h1 | ⟨b, wr, rfl, hb⟩
 ·rw [ofEvent_loc_mark h1] at hy; cases hy
 ·rw [ofEvent_loc_mark h1] at hy; cases hy
 ·rw [ofEvent_cell] at hy
  simp only [MemAct.touch?, Option.some.injEq] at hy
  subst hy
  exact ⟨b, rfl, hb, by simp⟩
theorem qbs (jf : ∀ i F v w w1, jb i F v w → Ext F w w1 → jb i F v w1) (ha : gs[0]? = some a) (hcom : kz P ty o Wg C n SB jb j gs w t D q d0) (S : Sep Wg C SB j D FM OM w) (hk0 : Kept Wg C L0 w0 j D OM w)
  (hgo : stepG P true a w = .go a' w' es) (hAs : Aside Wg w w') (hwg' : WgAt ty Wg w' st' sm') (htc : ∀ e ∈ es, ∀ y, (MemAct.ofEvent e).touch? = some y → ∃ b, y.loc = .cell b ∧ b.block = Wg ∧ y.kind ≠ .plain) (hnr : ∀ e ∈ es, e.loc ≠ .mark (.release (stA Wg)))
  (qj3 : MS P ty Wg C n jb K tag' f' (deafBehind d0 es) .leaf FM (fun _ => False) a' w') (hmode' : Mo j (xd D) tag' st' sm') (hjt : JT n tag' j)
  (hlt : psi n (Vc j (xd D)) tag' < psi n (Vc j (xd D)) tag ∨ (psi n (Vc j (xd D)) tag' = psi n (Vc j (xd D)) tag ∧ rk = .leaf ∧ f' < f0)) :
  Out P ty o Wg C n SB jb K L0 w0 gs w sl t 0 (psi n (Vc j (xd D)) tag + qah j D, ranks n D rk, f0 + 2 * qbq j D + 2 * sumTo o q) := by
 obtain ⟨cs, hc1, hc2⟩ := hcom.pay
 have hsz : w.heap.size ≤ w'.heap.size := by rw [hAs.size]; exact jy _
 have lW := S.lW
 refine callerStep jf ha hcom S hgo qj3 (S.none.size hsz) (fun i hi => ⟨⟨hsz, fun b hb => hAs.block b (S.wF i hi b hb).2.1⟩, RW.of_wg hAs ⟨_, _, hwg'⟩ S.hCW⟩) hsz (qf8 htc)
  (fun e he y hy => by obtain ⟨b, h1, _⟩ := htc e he y hy; rw [h1]; rfl) hnr (fun e he y hy => by obtain ⟨b, h1, h2, _⟩ := htc e he y hy; rw [h1]; show b.block < _; omega) ⟨cs, (hAs.block C S.hCW).trans hc1, hc2⟩ hwg' hmode' hjt (hk0.none.wg hAs hwg') ?_
 rcases hlt with h | ⟨h1, h2, h3⟩
 ·exact .inl h
 ·exact .inr (.inr ⟨h1, h2.symm, h3⟩)
theorem qd0 (jf : ∀ i F v w w1, jb i F v w → Ext F w w1 → jb i F v w1) (ha : gs[0]? = some a) (hcom : kz P ty o Wg C n SB jb j gs w t D q d0) (S : Sep Wg C SB j D FM OM w) (hk0 : Kept Wg C L0 w0 j D OM w)
  (hwg : WgAt ty Wg w st sm) (hmode : Mo j (xd D) tag st sm) (hjt : JT n tag j)
  (hgo : stepG P true a w = .go a' w' es) (hD : DC0 w w' es) (qj3 : MS P ty Wg C n jb K tag f' d0 .leaf FM (fun _ => False) a' w') (hf : f' < f0) :
  Out P ty o Wg C n SB jb K L0 w0 gs w sl t 0 (psi n (Vc j (xd D)) tag + qah j D, ranks n D .leaf, f0 + 2 * qbq j D + 2 * sumTo o q) := by
 obtain ⟨rfl, rfl⟩ := hD
 exact qbs jf ha hcom S hk0 hgo (.refl Wg _) hwg (by simp) (by simp) qj3 hmode hjt (.inr ⟨rfl, rfl, hf⟩)
omit [Payload] in
theorem qeu (h : ∀ e ∈ es, Bk Wg e) : ∀ e ∈ es, e.loc ≠ .mark (.release (stA Wg)) := fun e he => (norel_of_Bk h) e he
omit [Payload] in
theorem qkv {m : Mark} (hm : m = .read (smA Wg) ∨ m = .write (smA Wg)) : ∀ e ∈ #[mk m], ∀ y, (MemAct.ofEvent e).touch? = some y → ∃ b, y.loc = .cell b ∧ b.block = Wg ∧ y.kind ≠ .plain := by
 intro e he y hy
 simp only [List.mem_toArray, List.mem_singleton] at he
 subst he
 rcases hm with rfl | rfl <;>
  (simp only [mk, MemAct.ofEvent, MemAct.touch?, Option.some.injEq] at hy
   subst hy
   exact ⟨smA Wg, rfl, rfl, by simp⟩)
omit [Payload] in
theorem qx4 {m : Mark} (hm : m ≠ .release (stA Wg)) : ∀ e ∈ #[mk m], e.loc ≠ .mark (.release (stA Wg)) := by
 intro e he
 simp only [List.mem_toArray, List.mem_singleton] at he
 subst he
 intro h
 simp only [mk, Loc.mark.injEq] at h
 exact hm h
section
variable (jf : ∀ i F v w w1, jb i F v w → Ext F w w1 → jb i F v w1) (hn : n < 2147483648) (ha : gs[0]? = some a) (hk0 : Kept Wg C L0 w0 j D OM w) (S : Sep Wg C SB j D FM OM w) (hwg : WgAt ty Wg w st sm)
include jf hn ha hk0 S hwg
omit hn in
theorem qsk {r : Nat} (hcom : kz P ty o Wg C n SB jb j gs w t D q 0) (hmode : Mo j (xd D) (.kdS r) st sm) (hjt : JT n (.kdS r) j) (hr : r < n)
  (h : Goes P true (RM ty Wg FM) DC0 (qam P .disable (MG P ty Wg FM (qe4 P ty Wg FM (MG P ty Wg FM (AtGoM P ty Wg C n jb (n - (r + 1)) FM fun g' w => WG P true (Scr P ty Wg C n jb K r) FM (fun _ => False) g' w))))) f0 a w) :
  Out P ty o Wg C n SB jb K L0 w0 gs w sl t 0 (psi n (Vc j (xd D)) (.kdS r) + qah j D, ranks n D .leaf, f0 + 2 * qbq j D + 2 * sumTo o q) := by
 rcases Goes.cases h with hstop | ⟨m', rfl, hstep⟩
 ·obtain ⟨_, a', hgo, m₂, hk⟩ := hstop w (jl w)
  exact qbs (tag' := .ad r) jf ha hcom S hk0 hgo (.refl Wg _) hwg (qag bk_dis) (qeu bk_dis) (.ad hr hk) (hmode.reopen trivial trivial rfl (by simp)) hjt (.inl (by simp only [psi]; omega))
 ·obtain ⟨a', w', es, hgo, hD, hg'⟩ := hstep w (jl w)
  exact qd0 jf ha hcom S hk0 hwg hmode hjt hgo hD (.kdS hr hg') (by omega)
theorem q4u {r : Nat} (hcom : kz P ty o Wg C n SB jb j gs w t D q 1) (hmode : Mo j (xd D) (.ad r) st sm) (hjt : JT n (.ad r) j) (hr : r < n)
  (h : Goes P true (RM ty Wg FM) DC0 (qe4 P ty Wg FM (MG P ty Wg FM (AtGoM P ty Wg C n jb (n - (r + 1)) FM fun g' w => WG P true (Scr P ty Wg C n jb K r) FM (fun _ => False) g' w))) f0 a w) :
  Out P ty o Wg C n SB jb K L0 w0 gs w sl t 0 (psi n (Vc j (xd D)) (.ad r) + qah j D, ranks n D .leaf, f0 + 2 * qbq j D + 2 * sumTo o q) := by
 have hVj := Vc_le j (xd D)
 have hjn := hjt.le
 rcases Goes.cases h with hstop | ⟨m', rfl, hstep⟩
 ·obtain ⟨_, hall⟩ := hstop w (jl w)
  obtain ⟨ho, rfl, rfl, _⟩ := hmode.open_inv trivial
  have hj1 : j + r + 1 = n := hjt
  obtain ⟨a', hgo, hk⟩ := hall (Vc j (xd D)) (by omega) (by simpa [qak] using hwg)
  rcases hk with ⟨_, m₂, hk⟩ | ⟨_, m₂, hk⟩
  ·refine qbs (tag' := .rs r) jf ha hcom S hk0 hgo (aside_setCell w (stA Wg) _) (hwg.setSt _) (qag bk_rw) (qeu bk_rw) (.rs hr hk) ?_ hjt (.inl (by simp only [psi]; omega))
   have e : (((Vc j (xd D) : Nat) : Int) + 1) * KK = ((Vc j (xd D) + qak (.rs r) : Nat) : Int) * KK := by simp [qak]
   rw [e]
   exact .opn trivial ho (by simp)
  ·refine qbs (tag' := .en r) jf ha hcom S hk0 hgo (aside_setCell w (stA Wg) _) (hwg.setSt _) (qag bk_rw) (qeu bk_rw) (.en hr hk) ?_ hjt (.inl (by simp only [psi]; omega))
   have e : (((Vc j (xd D) : Nat) : Int) + 1) * KK = ((Vc j (xd D) + qak (.en r) : Nat) : Int) * KK := by simp [qak]
   rw [e]
   exact .opn trivial ho (by simp)
 ·obtain ⟨a', w', es, hgo, hD, hg'⟩ := hstep w (jl w)
  exact qd0 jf ha hcom S hk0 hwg hmode hjt hgo hD (.ad hr hg') (by omega)
omit hn in
theorem q6g {r : Nat} (hcom : kz P ty o Wg C n SB jb j gs w t D q 1) (hmode : Mo j (xd D) (.rs r) st sm) (hjt : JT n (.rs r) j) (hr : r < n)
  (h : Goes P true (RM ty Wg FM) DC0 (qam P (.read (smA Wg)) (MG P ty Wg FM (qam P .enable (MG P ty Wg FM (AtGoM P ty Wg C n jb (n - (r + 1)) FM fun g' w => WG P true (Scr P ty Wg C n jb K r) FM (fun _ => False) g' w))))) f0 a w) :
  Out P ty o Wg C n SB jb K L0 w0 gs w sl t 0 (psi n (Vc j (xd D)) (.rs r) + qah j D, ranks n D .leaf, f0 + 2 * qbq j D + 2 * sumTo o q) := by
 rcases Goes.cases h with hstop | ⟨m', rfl, hstep⟩
 ·obtain ⟨_, a', hgo, m₂, hk⟩ := hstop w (jl w)
  exact qbs (tag' := .en r) jf ha hcom S hk0 hgo (.refl Wg _) hwg (qkv (.inl rfl)) (qx4 (by simp)) (.en hr hk) (hmode.reopen trivial trivial rfl (by simp)) hjt (.inl (by simp only [psi]; omega))
 ·obtain ⟨a', w', es, hgo, hD, hg'⟩ := hstep w (jl w)
  exact qd0 jf ha hcom S hk0 hwg hmode hjt hgo hD (.rs hr hg') (by omega)
omit hn in
theorem q46 {r : Nat} (hcom : kz P ty o Wg C n SB jb j gs w t D q 1) (hmode : Mo j (xd D) (.en r) st sm) (hjt : JT n (.en r) j) (hr : r < n)
  (h : Goes P true (RM ty Wg FM) DC0 (qam P .enable (MG P ty Wg FM (AtGoM P ty Wg C n jb (n - (r + 1)) FM fun g' w => WG P true (Scr P ty Wg C n jb K r) FM (fun _ => False) g' w))) f0 a w) :
  Out P ty o Wg C n SB jb K L0 w0 gs w sl t 0 (psi n (Vc j (xd D)) (.en r) + qah j D, ranks n D .leaf, f0 + 2 * qbq j D + 2 * sumTo o q) := by
 rcases Goes.cases h with hstop | ⟨m', rfl, hstep⟩
 ·obtain ⟨_, a', hgo, m₂, hk⟩ := hstop w (jl w)
  exact qbs (tag' := .gos r) jf ha hcom S hk0 hgo (.refl Wg _) hwg (qag bk_en) (qeu bk_en) (.gos hr hk) (hmode.reopen trivial trivial rfl (by simp)) hjt (.inl (by simp only [psi]; omega))
 ·obtain ⟨a', w', es, hgo, hD, hg'⟩ := hstep w (jl w)
  exact qd0 jf ha hcom S hk0 hwg hmode hjt hgo hD (.en hr hg') (by omega)
omit hn in
theorem qxj {A : Goroutine → World → Prop} (hA1 : ∀ g w, A g w → g.status = .running) (hA2 : ∀ g w, A g w → MG P ty Wg FM (qfw P ty Wg FM A K) g w) (hcom : kz P ty o Wg C n SB jb j gs w t D q 0) (hmode : Mo j (xd D) .kd st sm) (hjt : JT n .kd j)
  (h : Goes P true (RM ty Wg FM) DC0 (qam P .disable (MG P ty Wg FM A)) f0 a w) :
  Out P ty o Wg C n SB jb K L0 w0 gs w sl t 0 (psi n (Vc j (xd D)) .kd + qah j D, ranks n D .leaf, f0 + 2 * qbq j D + 2 * sumTo o q) := by
 have hVj := Vc_le j (xd D)
 have hjn := hjt.le
 rcases Goes.cases h with hstop | ⟨m', rfl, hstep⟩
 ·obtain ⟨_, a', hgo, m₂, hk⟩ := hstop w (jl w)
  exact qbs (tag' := .anch) jf ha hcom S hk0 hgo (.refl Wg _) hwg (qag bk_dis) (qeu bk_dis) (.anch hA1 hA2 hk) (hmode.reopen trivial trivial rfl (by simp)) hjt (.inl (by simp only [psi]; omega))
 ·obtain ⟨a', w', es, hgo, hD, hg'⟩ := hstep w (jl w)
  exact qd0 jf ha hcom S hk0 hwg hmode hjt hgo hD (.kd hA1 hA2 hg') (by omega)
theorem qxr {A : Goroutine → World → Prop} (hA1 : ∀ g w, A g w → g.status = .running) (hA2 : ∀ g w, A g w → MG P ty Wg FM (qfw P ty Wg FM A K) g w) (hcom : kz P ty o Wg C n SB jb j gs w t D q 1) (hmode : Mo j (xd D) .ld st sm) (hjt : JT n .ld j)
  (h : Goes P true (RM ty Wg FM) DC0 (qfw P ty Wg FM A K) f0 a w) :
  Out P ty o Wg C n SB jb K L0 w0 gs w sl t 0 (psi n (Vc j (xd D)) .ld + qah j D, ranks n D .leaf, f0 + 2 * qbq j D + 2 * sumTo o q) := by
 have hVj := Vc_le j (xd D)
 have hjn := hjt.le
 rcases Goes.cases h with hstop | ⟨m', rfl, hstep⟩
 ·obtain ⟨_, hall⟩ := hstop w (jl w)
  obtain ⟨ho, rfl, rfl, _⟩ := hmode.open_inv trivial
  obtain ⟨a', hgo, h0, hne⟩ := hall (Vc j (xd D)) (by omega) (by simpa [qak] using hwg)
  by_cases hv : Vc j (xd D) = 0
  ·obtain ⟨m₂, hk⟩ := h0 hv
   refine qbs (tag' := .en2) jf ha hcom S hk0 hgo (.refl Wg _) hwg (qag bk_rd) (qeu bk_rd) (.en2 hk) ?_ hjt (.inl (by simp only [psi]; omega))
   have e : ((Vc j (xd D) + qak .ld : Nat) : Int) * KK = 0 := by rw [hv]; simp [qak]
   rw [e]
   exact .fin trivial (allQuit_of ho hv)
  ·obtain ⟨m₂, hk⟩ := hne hv
   exact qbs (tag' := .cs (Vc j (xd D))) jf ha hcom S hk0 hgo (.refl Wg _) hwg (qag bk_rd) (qeu bk_rd) (.cs hA1 hA2 hk) (hmode.reopen trivial trivial rfl (fun vs e => by cases e; omega)) hjt (.inl (by simp only [psi]; omega))
 ·obtain ⟨a', w', es, hgo, hD, hg'⟩ := hstep w (jl w)
  exact qd0 jf ha hcom S hk0 hwg hmode hjt hgo hD (.ld hA1 hA2 hg') (by omega)
theorem qvy {A : Goroutine → World → Prop} (hA1 : ∀ g w, A g w → g.status = .running) (hA2 : ∀ g w, A g w → MG P ty Wg FM (qfw P ty Wg FM A K) g w) (hcom : kz P ty o Wg C n SB jb j gs w t D q 1) (hmode : Mo j (xd D) .anch st sm) (hjt : JT n .anch j)
  (h : Goes P true (RM ty Wg FM) DC0 A f0 a w) :
  Out P ty o Wg C n SB jb K L0 w0 gs w sl t 0 (psi n (Vc j (xd D)) .anch + qah j D, ranks n D .leaf, f0 + 2 * qbq j D + 2 * sumTo o q) := by
 rcases Goes.cases h with hstop | ⟨m', rfl, hstep⟩
 ·obtain ⟨m₂, hk⟩ := hA2 a w (hstop w (jl w))
  obtain ⟨m₁, ops, μ', h1, h2, h3⟩ := qxr (sl := sl) jf hn ha hk0 S hwg hA1 hA2 hcom (hmode.reopen trivial trivial rfl (by simp)) hjt hk
  exact ⟨m₁, ops, μ', h1, h2.lt1 (by simp only [psi]; omega), h3⟩
 ·obtain ⟨a', w', es, hgo, hD, hg'⟩ := hstep w (jl w)
  exact qd0 jf ha hcom S hk0 hwg hmode hjt hgo hD (.anch hA1 hA2 hg') (by omega)
theorem q41 {A : Goroutine → World → Prop} {vs : Nat} (hA1 : ∀ g w, A g w → g.status = .running) (hA2 : ∀ g w, A g w → MG P ty Wg FM (qfw P ty Wg FM A K) g w) (hcom : kz P ty o Wg C n SB jb j gs w t D q 1) (hmode : Mo j (xd D) (.cs vs) st sm) (hjt : JT n (.cs vs) j)
  (h : Goes P true (RM ty Wg FM) DC0 (qja P ty Wg FM A K vs) f0 a w) :
  Out P ty o Wg C n SB jb K L0 w0 gs w sl t 0 (psi n (Vc j (xd D)) (.cs vs) + qah j D, ranks n D .leaf, f0 + 2 * qbq j D + 2 * sumTo o q) := by
 have hVj := Vc_le j (xd D)
 have hjn := hjt.le
 rcases Goes.cases h with hstop | ⟨m', rfl, hstep⟩
 ·obtain ⟨_, hall⟩ := hstop w (jl w)
  obtain ⟨ho, rfl, rfl, hw2⟩ := hmode.open_inv trivial
  obtain ⟨hle, h1⟩ := hw2 vs rfl
  obtain ⟨hhit, hmiss⟩ := hall (Vc j (xd D)) (by omega) (by simpa [qak] using hwg)
  by_cases e : Vc j (xd D) = vs
  ·obtain ⟨a', hgo, m₂, hk⟩ := hhit e
   exact qbs (tag' := .ws) jf ha hcom S hk0 hgo (aside_setCell w (stA Wg) _) (hwg.setSt _) (qag bk_rw) (qeu bk_rw) (.ws hk) (.reg trivial ho (by omega)) hjt (.inl (by simp only [psi]; omega))
  ·obtain ⟨a', hgo, m₂, hk⟩ := hmiss e
   exact qbs (tag' := .anch) jf ha hcom S hk0 hgo (.refl Wg _) hwg (qag bk_rd) (qeu bk_rd) (.anch hA1 hA2 hk) (hmode.reopen trivial trivial rfl (by simp)) hjt (.inl (by simp only [psi]; omega))
 ·obtain ⟨a', w', es, hgo, hD, hg'⟩ := hstep w (jl w)
  exact qd0 jf ha hcom S hk0 hwg hmode hjt hgo hD (.cs hA1 hA2 hg') (by omega)
omit hn in
theorem q7l (hcom : kz P ty o Wg C n SB jb j gs w t D q 1) (hmode : Mo j (xd D) .ws st sm) (hjt : JT n .ws j)
  (h : Goes P true (RM ty Wg FM) DC0 (qam P (.write (smA Wg)) (MG P ty Wg FM (qf3 P ty Wg FM K))) f0 a w) :
  Out P ty o Wg C n SB jb K L0 w0 gs w sl t 0 (psi n (Vc j (xd D)) .ws + qah j D, ranks n D .leaf, f0 + 2 * qbq j D + 2 * sumTo o q) := by
 rcases Goes.cases h with hstop | ⟨m', rfl, hstep⟩
 ·obtain ⟨_, a', hgo, m₂, hk⟩ := hstop w (jl w)
  refine qbs (tag' := .sm) jf ha hcom S hk0 hgo (.refl Wg _) hwg (qkv (.inr rfl)) (qx4 (by simp)) (.sm hk) ?_ hjt (.inl (by simp only [psi]; omega))
  cases hmode with
  |opn h1 _ _ => exact h1.elim
  |reg h1 h2 h3 => exact .reg trivial h2 h3
  |last L h1 h2 h3 h4 => exact .last L trivial h2 h3 h4
  |sema h1 h2 => exact .sema (.inr rfl) h2
  |fin h1 _ => exact h1.elim
 ·obtain ⟨a', w', es, hgo, hD, hg'⟩ := hstep w (jl w)
  exact qd0 jf ha hcom S hk0 hwg hmode hjt hgo hD (.ws hg') (by omega)
end
end
end
section
open Go Go.Conc Go.ConcN Sim
open Go.ConcR (KK WgAt stA smA rd wr mk Payload DC0 g_of_ofEvents Bk bk_of_mute ofEvent_loc_mark ofEvent_cell)
section
variable [Payload] {P : Program} {ty : TypeId} {o Wg C n : Nat} {SB : Blocks} {jb : Nat → Blocks → Value → World → Prop} {K : Goroutine → World → Prop} {L0 : Nat} {w0 : World} {gs : Array Goroutine} {w w' : World} {sl : Option (Nat × Nat)} {j : Nat} {D : Nat → WX} {q : Nat → Nat} {tag tag' : Tag} {f0 f' d0 : Nat} {rk rk' : Rank} {FM OM FM' OM' : Blocks} {a a' : Goroutine} {t : Trace} {st sm st' sm' : Int} {es : Array Event}
variable (jf : ∀ i F v w w1, jb i F v w → Ext F w w1 → jb i F v w1) (ha : gs[0]? = some a) (hk0 : Kept Wg C L0 w0 j D OM w) (S : Sep Wg C SB j D FM OM w) (hwg : WgAt ty Wg w st sm)
include jf ha hk0 S hwg
theorem q6q (hcom : kz P ty o Wg C n SB jb j gs w t D q 1) (hmode : Mo j (xd D) .sm st sm) (hjt : JT n .sm j)
  (h : Goes P true (RM ty Wg FM) DC0 (qf3 P ty Wg FM K) f0 a w) :
  Out P ty o Wg C n SB jb K L0 w0 gs w sl t 0 (psi n (Vc j (xd D)) .sm + qah j D, ranks n D .leaf, (f0 + 1) + 2 * qbq j D + 2 * sumTo o q) := by
 rcases Goes.cases h with hstop | ⟨m', rfl, hstep⟩
 ·obtain ⟨_, hoff, hblk, htake⟩ := hstop w (jl w)
  have nil : ∀ e ∈ (#[] : Array Event), ∀ y, (MemAct.ofEvent e).touch? = some y → ∃ b, y.loc = .cell b ∧ b.block = Wg ∧ y.kind ≠ .plain := by simp
  cases hmode with
  |opn h1 _ _ => exact h1.elim
  |reg h1 h2 h3 => exact qbs (tag' := .blk) (f' := 0) jf ha hcom S hk0 (hblk ⟨_, hwg⟩) (.refl Wg w) hwg nil (by simp) (.blk hstop) (.reg trivial h2 h3) hjt (.inr ⟨rfl, rfl, by omega⟩)
  |last L h1 h2 h3 h4 => exact qbs (tag' := .blk) (f' := 0) jf ha hcom S hk0 (hblk ⟨_, hwg⟩) (.refl Wg w) hwg nil (by simp) (.blk hstop) (.last L trivial h2 h3 h4) hjt (.inr ⟨rfl, rfl, by omega⟩)
  |sema h1 h2 =>
   obtain ⟨a', hgo, m₂, hk⟩ := htake hwg
   exact qbs (tag' := .l2) jf ha hcom S hk0 hgo (aside_setCell w (smA Wg) _) (hwg.setSm 0) (qag bk_sem) (qeu bk_sem) (.l2 hk) (.fin trivial h2) hjt (.inl (by simp only [psi]; omega))
  |fin h1 _ => exact h1.elim
 ·obtain ⟨a', w', es, hgo, hD, hg'⟩ := hstep w (jl w)
  obtain ⟨rfl, rfl⟩ := hD
  exact qbs (tag' := .sm) (f' := m' + 1) jf ha hcom S hk0 hgo (.refl Wg _) hwg (by simp) (by simp) (.sm hg') hmode hjt (.inr ⟨rfl, rfl, by omega⟩)
theorem q5l (hcom : kz P ty o Wg C n SB jb j gs w t D q 1) (hmode : Mo j (xd D) .l2 st sm) (hjt : JT n .l2 j)
  (h : Goes P true (RM ty Wg FM) DC0 (qjb P ty Wg FM K) f0 a w) :
  Out P ty o Wg C n SB jb K L0 w0 gs w sl t 0 (psi n (Vc j (xd D)) .l2 + qah j D, ranks n D .leaf, f0 + 2 * qbq j D + 2 * sumTo o q) := by
 rcases Goes.cases h with hstop | ⟨m', rfl, hstep⟩
 ·obtain ⟨_, hx⟩ := hstop w (jl w)
  obtain ⟨hq, rfl, rfl⟩ := hmode.fin_inv trivial
  obtain ⟨a', hgo, m₂, hk⟩ := hx hwg
  exact qbs (tag' := .en2) jf ha hcom S hk0 hgo (.refl Wg _) hwg (qag bk_rd) (qeu bk_rd) (.en2 hk) (.fin trivial hq) hjt (.inl (by simp only [psi]; omega))
 ·obtain ⟨a', w', es, hgo, hD, hg'⟩ := hstep w (jl w)
  exact qd0 jf ha hcom S hk0 hwg hmode hjt hgo hD (.l2 hg') (by omega)
theorem q08 (hcom : kz P ty o Wg C n SB jb j gs w t D q 1) (hmode : Mo j (xd D) .en2 st sm) (hjt : JT n .en2 j)
  (h : Goes P true (RM ty Wg FM) DC0 (qam P .enable (MG P ty Wg FM (qam P (.acquire (stA Wg)) K))) f0 a w) :
  Out P ty o Wg C n SB jb K L0 w0 gs w sl t 0 (psi n (Vc j (xd D)) .en2 + qah j D, ranks n D .leaf, f0 + 2 * qbq j D + 2 * sumTo o q) := by
 rcases Goes.cases h with hstop | ⟨m', rfl, hstep⟩
 ·obtain ⟨_, a', hgo, m₂, hk⟩ := hstop w (jl w)
  obtain ⟨hq, rfl, rfl⟩ := hmode.fin_inv trivial
  exact qbs (tag' := .acq) jf ha hcom S hk0 hgo (.refl Wg _) hwg (qag bk_en) (qeu bk_en) (.acq hk) (.fin trivial hq) hjt (.inl (by simp only [psi]; omega))
 ·obtain ⟨a', w', es, hgo, hD, hg'⟩ := hstep w (jl w)
  exact qd0 jf ha hcom S hk0 hwg hmode hjt hgo hD (.en2 hg') (by omega)
theorem q5a {r : Nat} (hcom : kz P ty o Wg C n SB jb j gs w t D q 0) (hmode : Mo j (xd D) (.gos r) st sm) (hjt : JT n (.gos r) j) (hr : r < n)
  (h : Goes P true (RM ty Wg FM) DC0 (AtGoM P ty Wg C n jb (n - (r + 1)) FM fun g' w => WG P true (Scr P ty Wg C n jb K r) FM (fun _ => False) g' w) f0 a w) :
  Out P ty o Wg C n SB jb K L0 w0 gs w sl t 0 (psi n (Vc j (xd D)) (.gos r) + qah j D, ranks n D .leaf, f0 + 2 * qbq j D + 2 * sumTo o q) := by
 rcases Goes.cases h with hstop | ⟨m', rfl, hstep⟩
 ·obtain ⟨_, a', child, hsp, hcr, hwk0, rk2, hnext⟩ := hstop w (jl w)
  have hj1 : j + r + 1 = n := hjt
  have ej : n - (r + 1) = j := by omega
  rw [ej] at hwk0
  obtain ⟨F, hF, rkw, hwk⟩ := hwk0 hcom.pay
  obtain ⟨ho, rfl, rfl, _⟩ := hmode.open_inv trivial
  have hop := hcom.qke
  let x : WX := ⟨9, 0, 0, rkw, F, fun _ => False, .bool false⟩
  have S' : Sep Wg C SB (j + 1) (upd D j x) FM (fun _ => False) w := by
   refine ⟨fun i hi b hb => ?_, fun i hi b hb => ?_, fun i1 i2 h1 h2 hne b hb hb2 => ?_, fun b hb => ?_, fun _ h => h.elim, S.lW, S.lC, S.lS, S.hCW, S.sW, S.sC⟩
   ·by_cases e : i = j
    ·subst e; rw [upd_same] at hb; have := S.mF b (hF b hb); exact ⟨this.1, this.2.1, this.2.2.1, this.2.2.2.1⟩
    ·rw [upd_ne D _ e] at hb; exact S.wF i (by omega) b hb
   ·by_cases e : i = j
    ·subst e; rw [upd_same] at hb; exact hb.elim
    ·rw [upd_ne D _ e] at hb ⊢; exact S.wO i (by omega) b hb
   ·by_cases e : i1 = j
    ·subst e; rw [upd_same] at hb; exact hb.elim
    ·rw [upd_ne D _ e] at hb
     by_cases e2 : i2 = j
     ·subst e2; rw [upd_same] at hb2; exact (S.mF b (hF b hb2)).2.2.2.2 i1 (by omega) hb
     ·rw [upd_ne D _ e2] at hb2; exact S.apart i1 i2 (by omega) (by omega) hne b hb hb2
   ·have := S.mF b hb
    refine ⟨this.1, this.2.1, this.2.2.1, this.2.2.2.1, fun i hi hO => ?_⟩
    by_cases e : i = j
    ·subst e; rw [upd_same] at hO; exact hO.elim
    ·rw [upd_ne D _ e] at hO; exact this.2.2.2.2 i (by omega) hO
  have hrun' := runT_crowd_spawn (P := P) (sl := sl) (i := 0) ha (by simpa using hsp)
  rw [hcom.size] at hrun'
  have hcom' := hcom.spawn S' (a' := a') (child := child) rfl rfl (.own (by rw [show (9 : Nat) = 9 from rfl]) rfl rfl hwk) (fn := a.frame.fn) (pos := a.frame.place) (fn' := child.frame.fn) (pos' := a.frame.place)
  have ex : xd (upd D j x) = upd (xd D) j ⟨7, 0, 0⟩ := by rw [qnk]; rfl
  have eV : Vc (j + 1) (xd (upd D j x)) = Vc j (xd D) + 1 := by
   rw [ex]
   simp only [Vc, sumTo, upd_same]
   rw [sumTo_upd_out (xd D) _ cnt (jy _)]; rfl
  have eS : qah (j + 1) (upd D j x) = qah j D + 9 := by
   simp only [qah, sumTo, upd_same]
   rw [sumTo_upd_out D _ WX.stage (jy _)]
  have ho' : OpenSt (j + 1) (xd (upd D j x)) := fun i hi => by
   rw [ex]
   by_cases e : i = j
   ·subst e; rw [upd_same]; simp
   ·rw [upd_ne (xd D) _ e]; exact ho i (by omega)
  have ha' : ((gs.setIfInBounds 0 a').push child)[0]? = some a' := by
   have hs0 : 0 < (gs.setIfInBounds 0 a').size := by simp [hcom.size]; omega
   rw [Array.getElem?_push_lt hs0]
   simp
  have hk1 : Kept Wg C L0 w0 (j + 1) (upd D j x) (fun _ => False) w := by
   refine ⟨hk0.keep, hk0.lW, hk0.lC, fun i hi b hb => ?_, fun _ h => h.elim, hk0.tape, hk0.os, hk0.output, hk0.nb⟩
   by_cases e : i = j
   ·subst e; rw [upd_same] at hb; exact hb.elim
   ·rw [upd_ne D _ e] at hb; exact hk0.lO i (by omega) b hb
  refine ⟨_, _, _, hrun', ?_, _, w, sl, j + 1, upd D j x, q, .wg r, 0, 0, rk2, FM, fun _ => False, a', _, _, rfl, ha', .wg (by omega) hnext, ?_, S', hwg, ?_, (by show j + 1 + r = n; omega), hk1, rfl⟩
  ·refine Prod.Lex.left _ _ ?_
   rw [eS]
   simp only [psi]
   omega
  ·exact hcom'
  ·have e : ((Vc j (xd D) + qak (.gos r) : Nat) : Int) * KK = ((Vc (j + 1) (xd (upd D j x)) + qak (.wg r) : Nat) : Int) * KK := by rw [eV]; simp [qak]
   rw [e]
   exact .opn trivial ho' (by simp)
 ·obtain ⟨a', w', es, hgo, hD, hg'⟩ := hstep w (jl w)
  exact qd0 jf ha hcom S hk0 hwg hmode hjt hgo hD (.gos hr hg') (by omega)
theorem q7k {r : Nat} {f : World → Rank} (hcom : kz P ty o Wg C n SB jb j gs w t D q 0) (hmode : Mo j (xd D) (.wg r) st sm) (hjt : JT n (.wg r) j) (hr : r ≤ n)
  (h : WGo P true (Scr P ty Wg C n jb K r) (.node f) FM OM a w) :
  Out P ty o Wg C n SB jb K L0 w0 gs w sl t 0 (psi n (Vc j (xd D)) (.wg r) + qah j D, ranks n D (.node f), 0 + 2 * qbq j D + 2 * sumTo o q) := by
 obtain ⟨FM', OM', a', w', es, hgo, ok, hw'⟩ := h.2 w (Ext.refl ..)
 have lW := S.lW
 have lC := S.lC
 have nO : ∀ b, OM b → b ≠ Wg ∧ b ≠ C := fun b hb => ⟨(S.mF b (S.mO b hb).1).2.1, (S.mF b (S.mO b hb).1).2.2.1⟩
 have hW : w'.heap[Wg]? = w.heap[Wg]? := ok.keep Wg lW fun h => (nO Wg h).1 rfl
 have hC : w'.heap[C]? = w.heap[C]? := ok.keep C lC fun h => (nO C h).2 rfl
 have hwg' : WgAt ty Wg w' st sm := by unfold WgAt at *; rw [hW]; exact hwg
 have hsz := ok.size
 have S' : Sep Wg C SB j D FM' OM' w' := by
  refine ⟨fun i hi b hb => let x := S.wF i hi b hb; ⟨xll x.1 hsz, x.2⟩, S.wO, S.apart, fun b hb => ?_, fun b hb => ⟨ok.own b hb, fun i hi hf => ?_⟩, xll S.lW hsz, xll S.lC hsz, fun b hb => xll (S.lS b hb) hsz, S.hCW, S.sW, S.sC⟩
  ·refine ⟨ok.low b hb, ?_⟩
   rcases ok.new b hb with h | h
   ·exact (S.mF b h).2
   ·exact ⟨by omega, by omega, fun hs => by have := S.lS b hs; omega, fun i hi ho => by have := (S.wF i hi b (S.wO i hi b ho)).1; omega⟩
  ·rcases ok.qo8 b hb with h | h
   ·exact (S.mO b h).2 i hi hf
   ·have := (S.wF i hi b hf).1; omega
 have qj3 : MS P ty Wg C n jb K (.wg r) 0 (deafBehind 0 es) (f w) FM' OM' a' w' := by
  rw [deafBehind_idle (fun e he => ⟨(qbd (Wg := Wg) (ok.ev e he) ok.low).1, (qbd (Wg := Wg) (ok.ev e he) ok.low).2.1⟩) 0]
  exact .wg hr hw'
 refine callerStep jf ha hcom S hgo (tag' := .wg r) (f' := 0) qj3 S'
  (fun i hi => ⟨⟨hsz, fun b hb => ok.keep b (S.wF i hi b hb).1 fun ho => (S.mO b ho).2 i hi hb⟩, qsv hW hC⟩) hsz (fun op hop => ?_) (fun e he y hy => (qh5 (ok.ev e he) hy).1)
  (fun e he => (qbd (Wg := Wg) (ok.ev e he) ok.low).2.2.1) (fun e he => qem (qbd (Wg := Wg) (ok.ev e he) ok.low).2.2.2) ?_ hwg' hmode hjt ?_ (.inr (.inl ⟨rfl, ⟨w, rfl⟩⟩))
 ·obtain ⟨e, he, rfl⟩ := Go.Conc.mem_ofEvents hop
  refine ⟨rfl, fun y hy => .inr ?_⟩
  obtain ⟨h1, h2, h3, h4⟩ := qh5 (ok.ev e he) hy
  have hnb : ∀ {b : Nat}, FM' b → b ≠ Wg ∧ b ≠ C ∧ ¬ SB b ∧ ∀ i, i < j → ¬ (D i).O b := fun hb => (S'.mF _ hb).2
  have inF : ∀ {B : Blocks} {l : Loc}, qes B l → ∃ b, B b ∧ ((∃ a, l = .cell a ∧ a.block = b) ∨ l = .obj b) := by
   intro B l hl
   cases l with
   |cell a => exact ⟨_, hl, .inl ⟨a, rfl, rfl⟩⟩
   |obj r => exact ⟨_, hl, .inr rfl⟩
   |_ => exact hl.elim
  have same : ∀ {b b' : Nat} {l : Loc}, ((∃ a : Addr, l = .cell a ∧ a.block = b) ∨ l = .obj b) → ((∃ a : Addr, l = .cell a ∧ a.block = b') ∨ l = .obj b') → b = b' := by
   intro b b' l h1 h2
   rcases h1 with ⟨a, rfl, rfl⟩ | rfl
   ·rcases h2 with ⟨a', e, rfl⟩ | e
    ·cases e; rfl
    ·cases e
   ·rcases h2 with ⟨a', e, rfl⟩ | e
    ·cases e
    ·cases e; rfl
  obtain ⟨b, hb, hl⟩ := inF h3
  have hb' := hnb hb
  refine ⟨?_, fun k k1 kj => ?_, fun hwr k k1 kj => ?_⟩
  ·rintro ⟨c, hc, hs⟩
   rw [hc] at hl
   rcases hl with ⟨a1, e, rfl⟩ | e
   ·cases e
    rcases hs with hs | hs
    ·exact hb'.2.2.1 hs
    ·exact hb'.1 hs
   ·cases e
  ·rintro ⟨i, hi, rfl, h5⟩
   rcases h5 with h5 | h5
   ·obtain ⟨b', hb2, hl2⟩ := inF h5
    obtain rfl := same hl hl2
    exact hb'.2.2.2 i hi hb2
   ·rw [h5] at hl
    rcases hl with ⟨a1, e, rfl⟩ | e
    ·cases e; exact hb'.2.1 rfl
    ·cases e
  ·rintro ⟨i, hi, rfl, h5⟩
   obtain ⟨b', ⟨hb2, _⟩, hl2⟩ := inF h5
   obtain ⟨b3, hb3, hl3⟩ := inF (h4 hwr)
   obtain rfl := same hl hl2
   obtain rfl := same hl hl3
   exact (S'.mO _ hb3).2 i hi hb2
 ·obtain ⟨cs, h1, h2⟩ := hcom.pay
  exact ⟨cs, by rw [hC]; exact h1, h2⟩
 ·refine ⟨fun b hb => (ok.keep b (by have := hk0.lW; omega) fun ho => by have := hk0.lM b ho; omega).trans (hk0.keep b hb), hk0.lW, hk0.lC, hk0.lO, fun b hb => ?_, ok.tape.trans hk0.tape, ok.os.trans hk0.os, ok.output.trans hk0.output, fun x => ok.nb (hk0.nb x)⟩
  rcases ok.qo8 b hb with h | h
  ·exact hk0.lM b h
  ·have := hk0.lW; omega
end
end
end Go.Proofs.YtkpekiajdlolnabGreat.Ph
