/-
  PROVED IN PARTS: text 5 of 10 of the carrying ground of the claim (see each part's own remark). Conditions: those that each theorem names.
-/
import Derived.Test.YtkpekiajdlolnabGreatM04
import Derived.Conc.DeferLaws
import Derived.Conc.CompanyDraw
import Derived.Conc.Own3
import Derived.Conc.WgWords
set_option linter.unusedVariables false
set_option linter.unusedSimpArgs false

/-
  THE SWAP: the bottom frame of a lone piece goes with a sanitised rest; the company's frame with the real one.
-/
namespace Go.Proofs.YtkpekiajdlolnabGreat.Sim
open Go Go.Conc

/-- the sanitised rest: a runaway loop at the very rest and behind every block that it may be left by. -/
def stop (n : Nat) : Item := .code (.loop (.block n .skip))
mutual
def st : List Item → List Item
  | k => stop k.length :: sf k
termination_by k => 2 * k.length + 1
def sf : List Item → List Item
  | [] => []
  | .inBlock id :: k => .inBlock id :: st k
  | _ :: k => sf k
termination_by k => 2 * k.length
end
theorem st_eq (k : List Item) : st k = stop k.length :: sf k := by rw [st]
theorem exitTo_sf (id : Nat) (k : List Item) : exitTo id (sf k) = (exitTo id k).map st := by
  induction k with
  | nil => rw [sf]; rfl
  | cons a k ih =>
    cases a with
    | inBlock id' =>
      rw [sf]
      unfold exitTo
      split
      · rfl
      · rw [st_eq]
        show exitTo id (stop k.length :: sf k) = _
        rw [← ih]; rfl
    | _ =>
      rw [sf, ih]
      · rfl
      · intro _ e; cases e
theorem exitTo_st (id : Nat) (k : List Item) : exitTo id (st k) = (exitTo id k).map st := by
  rw [st_eq, ← exitTo_sf]; rfl
theorem exitTo_append (id : Nat) (k : List Item) : ∀ u, exitTo id (u ++ k) = ((exitTo id u).map (· ++ k)).or (exitTo id k)
  | [] => by simp [exitTo]
  | a :: u => by
    cases a with
    | inBlock id' =>
      show exitTo id (.inBlock id' :: (u ++ k)) = _
      have e : ∀ l, exitTo id (.inBlock id' :: l) = if id' == id then some l else exitTo id l := fun l => rfl
      rw [e, e]
      split
      · simp
      · rw [exitTo_append id k u]
    | _ => exact exitTo_append id k u
theorem exitTo_suffix {id : Nat} : ∀ {k k' : List Item}, exitTo id k = some k' → k' <:+ k
  | [], _, h => by cases h
  | a :: k, k', h => by
    have key : ∀ {k1}, exitTo id k = some k1 → k1 <:+ a :: k := fun h => (exitTo_suffix h).trans (List.suffix_cons a k)
    cases a with
    | inBlock id' =>
      unfold exitTo at h
      split at h
      · cases h; exact List.suffix_cons _ _
      · exact key h
    | _ => exact key h
theorem st_inj {k k1 k2 : List Item} (h1 : k1 <:+ k) (h2 : k2 <:+ k) (h : st k1 = st k2) : k1 = k2 := by
  rw [st_eq, st_eq] at h
  injection h with h _
  injection h with h
  injection h with h
  injection h with h _
  exact (List.suffix_of_suffix_length_le h1 h2 (Nat.le_of_eq h)).eq_of_length h
theorem codeOk_stop (P P' : Program) (Fb : FuncId → Bool) (wr : Bool) (n : Nat) : codeOk P P' Fb wr (.loop (.block n .skip)) = true := rfl

section
variable {X : Cx} {Fb : FuncId → Bool} {wr : Bool} {sp : FuncId → Bool} {ρ : Rel}
theorem IsR.sf (X : Cx) (Fb : FuncId → Bool) (wr : Bool) (ρ : Rel) : ∀ k, IsR X Fb wr ρ (sf k) (sf k)
  | [] => by rw [Sim.sf]; exact .nil
  | a :: k => by
    have ih := IsR.sf X Fb wr ρ k
    cases a with
    | inBlock id => rw [Sim.sf, st_eq]; exact .cons (.inBlock id) (.cons (.code (codeOk_stop _ _ _ _ _)) ih)
    | _ =>
      rw [Sim.sf]
      · exact ih
      · intro _ e; cases e
theorem IsR.st (X : Cx) (Fb : FuncId → Bool) (wr : Bool) (ρ : Rel) (k : List Item) : IsR X Fb wr ρ (st k) (st k) := by
  rw [st_eq]; exact .cons (.code (codeOk_stop _ _ _ _ _)) (IsR.sf X Fb wr ρ k)
theorem IsR.append {u u' k k' : List Item} (h : IsR X Fb wr ρ u u') (h' : IsR X Fb wr ρ k k') : IsR X Fb wr ρ (u ++ k) (u' ++ k') := by
  induction h with
  | nil => exact h'
  | cons a b ih => exact .cons a ih
end

/-- an operation without its guard. -/
def bare (o : Oper) : Oper := { o with guard := none }
/-- the rests of the bottom frame: lone, and in company. -/
inductive TS (k : List Item) (tm : Array Value) : List Item → List Item → Prop
  | code (a : Item) (u : List Item) : TS k tm (a :: u ++ st k) (a :: u ++ k)
  | op {ops : Array Oper} {i : Nat} {td : List Nat} {k0 : List Item} {o : Oper} : k = .inRegion ops td :: k0 → ops[i]? = some o → Region.wanted o (yielded ops tm) = true →
      TS k tm (.inRegion #[bare o] [0] :: st k) (.inRegion ops (i :: td) :: k0)
def wt (f : Frame) (t : List Item) : Frame := { f with todo := t }
inductive Sw (k : List Item) : Frame → List Frame → Frame → List Frame → Prop
  | bot {f : Frame} {t t' : List Item} : TS k f.tmps t t' → Sw k (wt f t) [] (wt f t') []
  | ret {f : Frame} {t t' : List Item} : f.mode = .returning → Sw k (wt f t) [] (wt f t') []
  | above {g : Frame} {up : List Frame} {f : Frame} {t t' : List Item} : TS k f.tmps t t' → Sw k g (up ++ [wt f t]) g (up ++ [wt f t'])
inductive Ld (k : List Item) : Frame → Frame → Prop
  | land {f : Frame} {k' : List Item} : k' = k ∨ (∃ id, exitTo id k = some k') → Ld k (wt f (st k')) (wt f k')
  | late {f : Frame} {o : Oper} : Ld k (wt f (.inRegion #[o] [] :: st k)) (wt f k)
inductive Aft (k : List Item) : Frame → List Frame → Frame → List Frame → Prop
  | sw {fr gr : Frame} {up gup : List Frame} : Sw k fr up gr gup → Aft k fr up gr gup
  | ld {fr gr : Frame} : Ld k fr gr → Aft k fr [] gr []
  | panic {fr gr : Frame} {ch : List PanicEntry} : fr.mode = .panicking ch → Aft k fr [] gr []
def PairS (k : List Item) (base : List Frame) (s s' : GStep) : Prop :=
  (∃ fr1 up1 gr1 gup1 w1 es, s = .go (G fr1 (up1 ++ base)) w1 es ∧ s' = .go (G gr1 (gup1 ++ base)) w1 es ∧ Aft k fr1 up1 gr1 gup1) ∨ ∀ g1 w1 es, s ≠ .go g1 w1 es

theorem PairS.ended {k : List Item} {base : List Frame} {o : Outcome} {w : World} {es : Array Event} {s' : GStep} : PairS k base (.ended o w es) s' := .inr fun _ _ _ e => by cases e
theorem PairS.after {k : List Item} {base : List Frame} {es0 : Array Event} {s s' : GStep} (h : PairS k base s s') : PairS k base (GStep.after es0 s) (GStep.after es0 s') := by
  rcases h with ⟨fr1, up1, gr1, gup1, w1, es, rfl, rfl, h⟩ | h
  · exact .inl ⟨fr1, up1, gr1, gup1, w1, es0 ++ es, rfl, rfl, h⟩
  · refine .inr fun g1 w1 es e => ?_
    obtain ⟨es2, k1, _⟩ := after_inv e
    exact h g1 w1 es2 k1
theorem PairS.to {k : List Item} {base : List Frame} (f : Frame) (u : List Item) (w : World) (es : Array Event) : PairS k base (.go (G (wt f (u ++ st k)) base) w es) (.go (G (wt f (u ++ k)) base) w es) := by
  refine .inl ⟨wt f (u ++ st k), [], wt f (u ++ k), [], w, es, rfl, rfl, ?_⟩
  cases u with
  | nil => exact .ld (.land (.inl rfl))
  | cons a u => exact .sw (.bot (.code a u))
theorem PairS.ret {k : List Item} {base : List Frame} (f : Frame) (t t' : List Item) (hm : f.mode = .returning) (w : World) (es : Array Event) : PairS k base (.go (G (wt f t) base) w es) (.go (G (wt f t') base) w es) :=
  .inl ⟨wt f t, [], wt f t', [], w, es, rfl, rfl, .sw (.ret hm)⟩
theorem PairS.panic {k : List Item} {base : List Frame} {f g : Frame} {ch : List PanicEntry} (hm : f.mode = .panicking ch) {w : World} {es : Array Event} : PairS k base (.go (G f base) w es) (.go (G g base) w es) :=
  .inl ⟨f, [], g, [], w, es, rfl, rfl, .panic hm⟩

section
variable {X : Cx} {Fb : FuncId → Bool} {wr : Bool} {sp : FuncId → Bool} {ρ : Rel}

/-- no row of the library waits at the head. -/
def Plainly : List Item → Prop
  | .call _ _ _ _ :: _ => False
  | _ => True
theorem apply_sw {k : List Item} {base : List Frame} {f : Frame} {t t' : List Item} {w w' : World} (hw : WR X ρ w w') (hm : f.mode = .run) (hk : f.kind = .normal) (hp : Plainly t) (hp' : Plainly t')
    (hfin : ∀ v, Aft k ((wt f t).finish v) [] ((wt f t').finish v) []) (hts : TS k f.tmps t t')
    {s s' : Sem Next} (hs : SS X ρ s s' (fun ρ1 n n' => NR X ρ1 n n')) : PairS k base (stepG.apply X.P true (wt f t) base none s w) (stepG.apply X.P true (wt f t') base none s w) := by
  have e1 : ((wt f t).kind == CallKind.early) = false := by show (f.kind == _) = _; rw [hk]; rfl
  have e2 : ((wt f t').kind == CallKind.early) = false := e1
  have hk1 : (match (wt f t).todo with | .call _ true _ _ :: _ => CallKind.wrapped | _ => .normal) = .normal := by
    show (match t with | .call _ true _ _ :: _ => CallKind.wrapped | _ => .normal) = .normal
    split
    · exact hp.elim
    · rfl
  have hk2 : (match (wt f t').todo with | .call _ true _ _ :: _ => CallKind.wrapped | _ => .normal) = .normal := by
    show (match t' with | .call _ true _ _ :: _ => CallKind.wrapped | _ => .normal) = .normal
    split
    · exact hp'.elim
    · rfl
  rcases hr : s.runT X.P w #[] with ⟨r, es0⟩
  unfold stepG.apply
  simp only [if_true, hr, e1, e2, Bool.false_eq_true, if_false, hk1, hk2]
  cases r with
  | halt h wx =>
    have hr' : s.run X.P w = .halt h wx := by rw [← Sem.runT_fst X.P s w #[], hr]
    obtain ⟨hmild, -⟩ := hs.2 w w' h wx hw hr'
    cases h with
    | panic v =>
      refine PairS.after (PairS.panic (ch := [{ v, recovered := false }]) ?_)
      show ((wt f t).raise _).mode = _
      unfold Frame.raise
      rw [show (wt f t).mode = .run from hm]
    | unsupported u =>
      cases u with
      | initOrder b => exact hmild.elim
      | _ => exact PairS.after PairS.ended
    | stuck m => exact PairS.after PairS.ended
    | _ => exact hmild.elim
  | ok n wx =>
    have hr' : s.run X.P w = .ok n wx := by rw [← Sem.runT_fst X.P s w #[], hr]
    obtain ⟨ρ1, n', w1', es1, h1, h2, h3, h4, h5, h6, h7⟩ := hs.1 w w' n wx #[] hw hr'
    cases h6 with
    | value h => exact PairS.after (.inl ⟨_, [], _, [], _, _, rfl, rfl, hfin _⟩)
    | skip => exact PairS.after (.inl ⟨_, [], _, [], _, _, rfl, rfl, hfin _⟩)
    | @enter g ars ars' _ _ =>
      refine PairS.after (.inl ⟨Frame.enter X.P g ars .normal, [wt f t], Frame.enter X.P g ars .normal, [wt f t'], wx, #[], ?_, ?_, .sw (.above (up := []) hts)⟩)
      · rcases t with _ | ⟨i, l⟩
        · rfl
        · cases i <;> first | rfl | exact hp.elim
      · rcases t' with _ | ⟨i, l⟩
        · rfl
        · cases i <;> first | rfl | exact hp'.elim
    | round _ _ _ _ _ => exact PairS.after (.inl ⟨_, [wt f t], _, [wt f t'], _, _, rfl, rfl, .sw (.above (up := []) hts)⟩)
end
end Go.Proofs.YtkpekiajdlolnabGreat.Sim

/-
  THE SWAP, second text: a step of a stack with a sanitised bottom goes alike with the real one.
-/
namespace Go.Proofs.YtkpekiajdlolnabGreat.Sim
open Go Go.Conc

section
variable {X : Cx} {Fb : FuncId → Bool} {wr : Bool} {sp : FuncId → Bool} {ρ : Rel}

theorem oper_eq {f : Frame} {ops : Array Oper} {i : Nat} {td : List Nat} {l : List Item} {o : Oper} (ho : ops[i]? = some o) (hr : f.roundOf = none) (base : List Frame) (w : World) :
    stepG.oper X.P true (wt f (.inRegion ops (i :: td) :: l)) base none w = stepG.apply X.P true (wt f (.inRegion ops (i :: td) :: l)) base none (execOp f.eval o) w := by
  have op1 : (wt f (.inRegion ops (i :: td) :: l)).oper? = some o := ho
  have e : (wt f (.inRegion ops (i :: td) :: l)).eval = f.eval := by funext x; cases x <;> rfl
  unfold stepG.oper
  rw [op1]
  dsimp only
  rw [e]
  have hr' : (wt f (.inRegion ops (i :: td) :: l)).roundOf = none := hr
  rw [hr']

theorem exec_want {P : Program} {m : Bool} {f : Frame} {ops : Array Oper} {i : Nat} {td : List Nat} {l : List Item} (h : ((ops[i]?).map (Region.wanted · (yielded ops f.tmps))).getD false = true) (base : List Frame) (w : World) :
    stepG.exec P m true (wt f (.inRegion ops (i :: td) :: l)) base none w = stepG.oper P true (wt f (.inRegion ops (i :: td) :: l)) base none w := by
  unfold stepG.exec
  exact if_pos h
theorem exec_skip {P : Program} {m : Bool} {f : Frame} {ops : Array Oper} {i : Nat} {td : List Nat} {l : List Item} (h : ¬ ((ops[i]?).map (Region.wanted · (yielded ops f.tmps))).getD false = true) (base : List Frame) (w : World) :
    stepG.exec P m true (wt f (.inRegion ops (i :: td) :: l)) base none w = .go (G ((wt f (.inRegion ops (i :: td) :: l)).finish undef) base) w #[] := by
  unfold stepG.exec
  exact if_neg h

theorem finish_code {k : List Item} {f : Frame} {ops : Array Oper} {i : Nat} {td : List Nat} {u : List Item} (v : Value) :
    Aft k ((wt f (.inRegion ops (i :: td) :: u ++ st k)).finish v) [] ((wt f (.inRegion ops (i :: td) :: u ++ k)).finish v) [] :=
  .sw (.bot (f := { f with tmps := match (ops[i]?).bind (·.dst) with
                | some d => f.tmps.setIfInBounds d v
                | none => f.tmps }) (.code (.inRegion ops td) u))
theorem finish_op {k : List Item} {f : Frame} {ops : Array Oper} {i : Nat} {td : List Nat} {k0 : List Item} {o : Oper} (hk : k = .inRegion ops td :: k0) (ho : ops[i]? = some o) (v : Value) :
    Aft k ((wt f (.inRegion #[bare o] [0] :: st k)).finish v) [] ((wt f (.inRegion ops (i :: td) :: k0)).finish v) [] := by
  have e : (wt f (.inRegion ops (i :: td) :: k0)).finish v = wt { f with tmps := match o.dst with
                | some d => f.tmps.setIfInBounds d v
                | none => f.tmps } k := by
    show (Frame.mk _ _ _ _ _ _ _ : Frame) = _
    subst hk
    unfold wt
    simp only [ho, Option.bind_some]
    rfl
  rw [e]
  exact .ld (.late (f := { f with tmps := match o.dst with
                | some d => f.tmps.setIfInBounds d v
                | none => f.tmps }) (o := bare o))

theorem exec_sw (S : X.Set Fb wr sp) {k : List Item} {base : List Frame} {f fr' : Frame} {t t' : List Item} {w w' : World} (hts : TS k f.tmps t t') (hf : FR X Fb wr ρ (wt f t) fr') (hw : WR X ρ w w') (hm : f.mode = .run) (m : Bool) (hro : f.roundOf = none) :
    PairS k base (stepG.exec X.P m true (wt f t) base none w) (stepG.exec X.P m true (wt f t') base none w) := by
  have hk : f.kind = .normal := hf.kind
  have hev := hf.eval S
  have hco : ∀ c, codeOk X.P X.P' Fb wr c = true → X.C c := fun c h => (S.c c).2 h
  have he0 : ∀ t, (wt f t).eval = f.eval := fun t => by funext x; cases x <;> rfl
  cases hts with
  | @op ops i td k0 o e ho hwant =>
    have hwr : Region.wanted (bare o) (yielded #[bare o] f.tmps) = true := rfl
    have ht : IsR X Fb wr ρ (.inRegion #[bare o] [0] :: st k) fr'.todo := hf.todo
    have hok : okOp X.P X.P' Fb wr (bare o) = true := by
      generalize fr'.todo = tf at ht
      cases ht with
      | cons a b => cases a with
        | inRegion td c => exact all_ops c (i := 0) rfl
    have ex : execOp f.eval (bare o) = execOp f.eval o := rfl
    have e1 : stepG.exec X.P m true (wt f (.inRegion #[bare o] [0] :: st k)) base none w = stepG.oper X.P true (wt f (.inRegion #[bare o] [0] :: st k)) base none w := by
      unfold stepG.exec
      exact if_pos hwr
    have e2 : stepG.exec X.P m true (wt f (.inRegion ops (i :: td) :: k0)) base none w = stepG.oper X.P true (wt f (.inRegion ops (i :: td) :: k0)) base none w := by
      unfold stepG.exec
      refine if_pos ?_
      show ((ops[i]?).map (Region.wanted · (yielded ops f.tmps))).getD false = true
      rw [ho]; exact hwant
    rw [e1, e2, oper_eq (o := bare o) rfl hro, oper_eq ho hro, ex]
    refine apply_sw (t := .inRegion #[bare o] [0] :: st k) (t' := .inRegion ops (i :: td) :: k0) hw hm hk trivial trivial (fun v => finish_op e ho v) (.op e ho hwant) ?_ (s' := execOp fr'.eval (bare o))
    rw [← ex, ← he0]
    exact SS.execOp S.ok wr S.wrs _ hok _ _ hev
  | @code a u =>
    have ht : IsR X Fb wr ρ (a :: (u ++ st k)) fr'.todo := hf.todo
    show PairS k base (stepG.exec X.P m true (wt f (a :: (u ++ st k))) base none w) (stepG.exec X.P m true (wt f (a :: (u ++ k))) base none w)
    generalize htd : fr'.todo = tf at ht
    cases ht with
    | @cons _ i' _ l' a b =>
    unfold stepG.exec
    cases a with
    | inBlock id => exact PairS.to f u w #[]
    | @inLoop c => exact PairS.to f (.code c :: .inLoop c :: u) w #[]
    | inRangeFunc r => exact PairS.ended
    | beginRound =>
      have hro1 : ∀ t, (wt f t).roundOf = none := fun _ => hro
      dsimp only
      rw [hro1, hro1]
      refine apply_sw (t := .beginRound :: u ++ st k) (t' := .beginRound :: u ++ k) hw hm hk trivial trivial (fun v => ?_) (.code .beginRound u) (SS.dies (Dies.bindL (Dies.stuck _)) : SS X ρ _ (do (none.elim (Go.stuck "beginRound: no round") Instr.beginRound : Sem Unit); Pure.pure .skip) _)
      cases u with
      | nil => exact .ld (.land (f := f) (.inl rfl))
      | cons a u => exact .sw (.bot (f := f) (.code a u))
    | @endRangeFunc l l' r =>
      dsimp only [wt]
      generalize (Instr.endLoop l).runT X.P w #[] = p0
      obtain ⟨r0, es0⟩ := p0
      cases r0 with
      | halt h wx =>
        cases h with
        | panic v =>
          refine PairS.after (PairS.panic (ch := [{ v, recovered := false }]) ?_)
          unfold Frame.raise
          simp only [hm]
        | _ => exact PairS.after PairS.ended
      | ok j wx =>
        refine PairS.after ?_
        have := PairS.to (k := k) (base := base) f ((j.map Item.code).toList ++ u) wx #[]
        rw [List.append_assoc, List.append_assoc] at this
        exact this
    | @inRegion ops td c =>
      cases td with
      | nil => exact PairS.to f u w #[]
      | cons i td =>
        show PairS k base (stepG.exec X.P m true (wt f (.inRegion ops (i :: td) :: (u ++ st k))) base none w) (stepG.exec X.P m true (wt f (.inRegion ops (i :: td) :: (u ++ k))) base none w)
        by_cases hwant : ((ops[i]?).map (Region.wanted · (yielded ops f.tmps))).getD false = true
        · rw [exec_want hwant, exec_want hwant]
          cases ho : ops[i]? with
          | none => rw [ho] at hwant; cases hwant
          | some o =>
            have hok := all_ops c ho
            rw [oper_eq ho hro, oper_eq ho hro]
            refine apply_sw (t := .inRegion ops (i :: td) :: u ++ st k) (t' := .inRegion ops (i :: td) :: u ++ k) hw hm hk trivial trivial (fun v => finish_code (u := u) v) (.code (.inRegion ops (i :: td)) u) ?_ (s' := execOp fr'.eval o)
            rw [← he0]
            exact SS.execOp S.ok wr S.wrs o hok _ _ hev
        · rw [exec_skip hwant, exec_skip hwant]
          exact .inl ⟨_, [], _, [], _, _, rfl, rfl, finish_code (u := u) undef⟩
    | @code c hc =>
      cases c with
      | skip => exact PairS.to f u w #[]
      | ret =>
        dsimp only [wt]
        simp only [hro, if_true]
        rw [← hro]
        exact PairS.ret { f with mode := .returning } (.code .ret :: (u ++ st k)) (.code .ret :: (u ++ k)) rfl w #[]
      | seq x y => exact PairS.to f (.code x :: .code y :: u) w #[]
      | cond x y z =>
        have he1 : ∀ t, Frame.eval { f with todo := t } x = f.eval x := fun t => congrFun (he0 t) x
        dsimp only [wt]
        rw [he1 (.code (.cond x y z) :: (u ++ st k)), he1 (.code (.cond x y z) :: (u ++ k))]
        generalize f.eval x = v
        cases v <;> first | exact PairS.ended | exact PairS.to f (.code _ :: u) w #[]
      | block id c => exact PairS.to f (.code c :: .inBlock id :: u) w #[]
      | loop c => exact PairS.to f (.code c :: .inLoop c :: u) w #[]
      | exit id =>
        dsimp only [wt]
        simp only [hro]
        rw [← hro, exitTo_append, exitTo_append, exitTo_st]
        cases h1 : exitTo id u with
        | some u' => exact PairS.to f u' w #[]
        | none =>
          cases h2 : exitTo id k with
          | some k' => exact .inl ⟨wt f (st k'), [], wt f k', [], w, #[], rfl, rfl, .ld (.land (.inr ⟨id, h2⟩))⟩
          | none => exact PairS.ended
      | region id ops draw =>
        cases draw with
        | false => exact PairS.to f (.inRegion ops _ :: u) w #[]
        | true =>
          dsimp only [wt]
          simp only [Bool.not_true, Bool.false_eq_true, if_false]
          rcases hr : (choose (.order f.fn id)).run X.P w with ⟨t, wx⟩ | ⟨h, wx⟩
          · exact PairS.to f (.inRegion ops _ :: u) wx #[]
          · exact PairS.ended
      | rangeFunc g params assign body =>
        simp only [codeOk, Bool.and_eq_true] at hc
        obtain ⟨hc1, hc2, hc3⟩ := hc
        have hG : X.G f.fn := hf.same
        have hfl : OptR ρ f.roundOf fr'.roundOf := hf.round
        have hen := SS.enterLoop hG (show VsR X.F ρ f.tmps.toList fr'.tmps.toList from hf.tmps) params (hco _ hc2) (hco _ hc3) hfl
        dsimp only [wt]
        generalize hr : (Instr.enterLoop f.fn f.tmps params assign body f.roundOf).runT X.P w #[] = p0
        obtain ⟨r0, es0⟩ := p0
        cases r0 with
        | halt h wx => exact PairS.after PairS.ended
        | ok p wx =>
          obtain ⟨l1, mark⟩ := p
          obtain ⟨ρ1, p', w1', es1, h1, h2, h3, h4, h5, ⟨h6, h6'⟩, h7⟩ := res_ok hen hw hr
          obtain ⟨l1', mark'⟩ := p'
          dsimp only at h6 h6'
          have hev1 : EvR X.F Fb ρ1 f.eval fr'.eval := by
            have := (hf.mono h3.le).eval S
            rw [he0] at this
            exact this
          exact PairS.after (apply_sw (f := { f with defers := mark ++ f.defers }) (t := .inRangeFunc l1 :: u ++ st k) (t' := .inRangeFunc l1 :: u ++ k) h2 hm hk trivial trivial
            (fun v => .sw (.bot (f := { f with defers := mark ++ f.defers }) (.code (.endRangeFunc l1) u))) (.code (.inRangeFunc l1) u) (SS.iterate S.ok (fun _ => rfl) (fun _ => rfl) (hev1.1 g hc1) h6))
      | _ => simp [codeOk] at hc
end
end Go.Proofs.YtkpekiajdlolnabGreat.Sim

/-
  THE SWAP, third text: a step of a whole stack, sanitised and real.
-/
namespace Go.Proofs.YtkpekiajdlolnabGreat.Sim
open Go Go.Conc

/-- a step that goes on above any base, or gives its answer to the caller. -/
def BcS (f : List Frame → GStep) : Prop := BaS f ∨ ∃ v w1 es, ∀ c base, f (c :: base) = .go (G (Frame.finish c v) base) w1 es
theorem BcS.of {f : List Frame → GStep} (h : BaS f) : BcS f := .inl h

section
variable {X : Cx} {Fb : FuncId → Bool} {wr : Bool} {sp : FuncId → Bool} {ρ : Rel}

theorem leave_bc {fr : Frame} {w : World} (hk : fr.kind = .normal) (jump : Option Code) (m : Bool) : BcS (fun base => leaveG X.P m fr base jump w) := by
  cases hro : fr.roundOf with
  | none => exact .inl (leave_ba (up := []) hk jump m (by rw [hro]; intro h; cases h))
  | some l =>
    obtain ⟨fn, tmps, todo, defers, mode, kind, ro⟩ := fr
    obtain rfl : kind = .normal := hk
    obtain rfl : ro = some l := hro
    unfold leaveG
    dsimp only
    rcases hr : (Instr.endRound l jump).runT X.P w #[] with ⟨r, es0⟩
    cases r with
    | halt h wx => exact .inl (BaS.after (BaS.ended fun _ => ⟨_, _, _, rfl⟩))
    | ok v wx => exact .inr ⟨v, wx, seen X.P fn es0 ++ #[], fun c base => rfl⟩

theorem exec_bc (S : X.Set Fb wr sp) {fr fr' : Frame} {w w' : World} (hf : FR X Fb wr ρ fr fr') (hw : WR X ρ w w') (hm : fr.mode = .run) (m : Bool) :
    BcS (fun base => stepG.exec X.P m true fr base none w) := by
  obtain ⟨fn, tmps, todo, defers, mode, kind, ro⟩ := fr
  obtain ⟨fn', tmps', todo', defers', mode', kind', ro'⟩ := fr'
  have ht : IsR X Fb wr ρ todo todo' := hf.todo
  obtain rfl : fn' = fn := hf.fn
  have hk : kind = .normal := hf.kind
  have hco : ∀ c, codeOk X.P X.P' Fb wr c = true → X.C c := fun c h => (S.c c).2 h
  unfold stepG.exec
  cases ht with
  | nil => exact leave_bc hk none m
  | @cons i i' l l' a b =>
    cases a with
    | inBlock id => exact BcS.of <| BaS.go _ [] w #[] fun _ => rfl
    | inLoop c => exact BcS.of <| BaS.go _ [] w #[] fun _ => rfl
    | inRangeFunc r => exact BcS.of <| BaS.ended fun _ => ⟨_, _, _, rfl⟩
    | beginRound =>
      refine BcS.of <| apply_ba (up := []) (fr := ⟨fn', tmps, _, defers, mode, kind, ro⟩) (s' := do (ro'.elim (Go.stuck "beginRound: no round") Instr.beginRound : Sem Unit); Pure.pure .skip) hw hm hk ?_
      have hr0 : OptR ρ ro ro' := hf.round
      rcases hr0 with ⟨rfl, rfl⟩ | ⟨l, l', rfl, rfl, hl⟩
      · exact SS.dies (Dies.bindL (Dies.stuck _))
      · exact (SS.beginRound hl).bind fun _ _ _ _ _ => SS.pure .skip
    | @endRangeFunc l l' r =>
      dsimp only
      rcases hr : (Instr.endLoop l).runT X.P w #[] with ⟨r0, es0⟩
      cases r0 with
      | halt h wx =>
        cases h with
        | panic v => exact BcS.of <| BaS.after (BaS.go _ [] wx #[] fun _ => rfl)
        | _ => exact BcS.of <| BaS.after (BaS.ended fun _ => ⟨_, _, _, rfl⟩)
      | ok j wx => exact BcS.of <| BaS.after (BaS.go _ [] wx #[] fun _ => rfl)
    | @inRegion ops td c =>
      cases td with
      | nil => exact BcS.of <| BaS.go _ [] w #[] fun _ => rfl
      | cons i td =>
        dsimp only
        by_cases hwant : ((ops[i]?).map (Region.wanted · (yielded ops tmps))).getD false = true
        · simp only [if_pos hwant]
          cases ho : ops[i]? with
          | none => rw [ho] at hwant; cases hwant
          | some o =>
            have hok := all_ops c ho
            have nd : ∀ c, o.op ≠ .defer c := fun c e => by
              unfold okOp at hok
              rw [e] at hok
              simp at hok
            have op1 : (⟨fn', tmps, .inRegion ops (i :: td) :: l, defers, mode, kind, ro⟩ : Frame).oper? = some o := ho
            have e : (fun base => stepG.oper X.P true (⟨fn', tmps, .inRegion ops (i :: td) :: l, defers, mode, kind, ro⟩ : Frame) base none w) =
                fun base => stepG.apply X.P true (⟨fn', tmps, .inRegion ops (i :: td) :: l, defers, mode, kind, ro⟩ : Frame) base none (execOp (Frame.eval (⟨fn', tmps, .inRegion ops (i :: td) :: l, defers, mode, kind, ro⟩ : Frame)) o) w := by
              funext base
              unfold stepG.oper
              rw [op1]
              dsimp only
              split
              · rename_i e; exact absurd e (nd _)
              · rfl
            rw [e]
            exact BcS.of <| apply_ba (up := []) hw hm hk (SS.execOp S.ok wr S.wrs o hok _ _ (hf.eval S))
        · simp only [if_neg hwant]
          exact BcS.of <| BaS.go _ [] w #[] fun _ => rfl
    | @code c hc =>
      cases c with
      | skip => exact BcS.of <| BaS.go _ [] w #[] fun _ => rfl
      | ret => exact leave_bc (fr := ⟨fn', tmps, _, defers, mode, kind, ro⟩) hk (some .ret) m
      | seq x y => exact BcS.of <| BaS.go _ [] w #[] fun _ => rfl
      | cond x y z =>
        dsimp only
        generalize Frame.eval _ x = v
        cases v <;> first | exact BcS.of <| BaS.go _ [] w #[] (fun _ => rfl) | exact BcS.of <| BaS.ended fun _ => ⟨_, _, _, rfl⟩
      | block id c => exact BcS.of <| BaS.go _ [] w #[] fun _ => rfl
      | loop c => exact BcS.of <| BaS.go _ [] w #[] fun _ => rfl
      | exit id =>
        dsimp only
        cases exitTo id l with
        | none => exact leave_bc (fr := ⟨fn', tmps, _, defers, mode, kind, ro⟩) hk (some (.exit id)) m
        | some k => exact BcS.of <| BaS.go _ [] w #[] fun _ => rfl
      | region id ops draw =>
        cases draw with
        | false => exact BcS.of <| BaS.go _ [] w #[] fun _ => rfl
        | true =>
          dsimp only
          simp only [Bool.not_true, Bool.false_eq_true, if_false]
          rcases hr : (choose (.order fn' id)).run X.P w with ⟨t, wx⟩ | ⟨h, wx⟩
          · exact BcS.of <| BaS.go _ [] wx #[] fun _ => rfl
          · exact BcS.of <| BaS.ended fun _ => ⟨_, _, _, rfl⟩
      | rangeFunc f params assign body =>
        simp only [codeOk, Bool.and_eq_true] at hc
        obtain ⟨hc1, hc2, hc3⟩ := hc
        have hG : X.G fn' := hf.same
        dsimp only
        rcases hr : (Instr.enterLoop fn' tmps params assign body ro).runT X.P w #[] with ⟨r0, es0⟩
        have hen := SS.enterLoop hG hf.tmps params (hco _ hc2) (hco _ hc3) hf.round
        cases r0 with
        | halt h wx => exact BcS.of <| BaS.after (BaS.ended fun _ => ⟨_, _, _, rfl⟩)
        | ok p wx =>
          obtain ⟨l1, mark⟩ := p
          obtain ⟨ρ1, p', w1', es1, h1, h2, h3, h4, h5, ⟨h6, h6'⟩, h7⟩ := res_ok hen hw hr
          obtain ⟨l1', mark'⟩ := p'
          dsimp only at h6 h6'
          have hf1 := hf.mono h3.le
          have hf2 : FR X Fb wr ρ1 ⟨fn', tmps, .inRangeFunc l1 :: l, mark ++ defers, mode, kind, ro⟩ ⟨fn', tmps', .inRangeFunc l1' :: l', mark' ++ defers', mode', kind', ro'⟩ :=
            ⟨hf1.fn, hf1.same, hf1.tmps, .cons (.inRangeFunc h6) (b.mono h3.le), h6'.append hf1.defers, hf1.mode, hf1.run, hf1.kind, hf1.kind', hf1.round⟩
          exact BcS.of <| BaS.after (apply_ba (up := []) (fr := ⟨fn', tmps, .inRangeFunc l1 :: l, mark ++ defers, mode, kind, ro⟩) h2 hm hk (SS.iterate S.ok (fun _ => rfl) (fun _ => rfl) ((hf2.eval S).1 f hc1) h6))
      | _ => simp [codeOk] at hc


theorem unwind_bc (S : X.Set Fb wr sp) {fr fr' : Frame} {w : World} (hf : FR X Fb wr ρ fr fr') (hm : fr.mode = .returning) (m : Bool) : BcS (fun base => unwind X.P m fr base none w) := by
  by_cases hd : fr.defers = []
  · obtain ⟨fn, tmps, todo, defers, mode, kind, ro⟩ := fr
    obtain rfl : mode = .returning := hm
    obtain rfl : kind = .normal := hf.kind
    obtain rfl : defers = [] := hd
    obtain ⟨f, q1, q2⟩ := hf.same
    have q1 : X.P.funcs[fn]? = some f := q1
    unfold unwind
    dsimp only
    rw [q1]
    dsimp only
    rcases hr : (results f tmps).runT X.P w #[] with ⟨r0, es0⟩
    cases r0 with
    | halt h wx => cases h <;> exact .inl (BaS.after (BaS.ended fun _ => ⟨_, _, _, rfl⟩))
    | ok v wx => exact .inr ⟨v, wx, _, fun c base => rfl⟩
  · exact .inl (unwind_ba (up := []) S hf hm m (.inl hd))

theorem step_bc (S : X.Set Fb wr sp) {fr fr' : Frame} {w w' : World} (hf : FR X Fb wr ρ fr fr') (hw : WR X ρ w w') (m : Bool) : BcS (fun base => stepG X.P m (G fr base) w) := by
  rcases hf.run with hm | hm
  · have e : (fun base => stepG X.P m (G fr base) w) = fun base => stepG.exec X.P m true fr base none w := funext fun base => stepG_run _ _ _ _ _ hm
    rw [e]
    exact exec_bc S hf hw hm m
  · have e : (fun base => stepG X.P m (G fr base) w) = fun base => unwind X.P m fr base none w := funext fun base => stepG_ret _ _ _ _ _ hm
    rw [e]
    exact unwind_bc S hf hm m

theorem TS.ne {k : List Item} {tm : Array Value} {t t' : List Item} (h : TS k tm t t') : t ≠ [] ∧ t' ≠ [] := by cases h <;> exact ⟨by simp, by simp⟩
theorem finish_aft {k : List Item} {f : Frame} {t t' : List Item} (h : TS k f.tmps t t') (v : Value) : Aft k ((wt f t).finish v) [] ((wt f t').finish v) [] := by
  cases h with
  | op e ho hw => exact finish_op e ho v
  | code a u =>
    cases a with
    | inRegion ops td =>
      cases td with
      | nil => exact .sw (.bot (f := f) (.code (.inRegion ops []) u))
      | cons i td => exact finish_code (u := u) v
    | inRangeFunc l => exact .sw (.bot (f := f) (.code (.endRangeFunc l) u))
    | beginRound =>
      cases u with
      | nil => exact .ld (.land (f := f) (.inl rfl))
      | cons a u => exact .sw (.bot (f := f) (.code a u))
    | call d wrapper resume saved => exact .sw (.bot (f := f) (.code _ u))
    | code c => exact .sw (.bot (f := f) (.code (.code c) u))
    | inBlock id => exact .sw (.bot (f := f) (.code (.inBlock id) u))
    | inLoop c => exact .sw (.bot (f := f) (.code (.inLoop c) u))
    | inScope c => exact .sw (.bot (f := f) (.code (.inScope c) u))
    | endRangeFunc c => exact .sw (.bot (f := f) (.code (.endRangeFunc c) u))
    | _ =>
      cases u with
      | nil => exact .ld (.land (f := { f with tmps := #[v] }) (.inl rfl))
      | cons a u => exact .sw (.bot (f := { f with tmps := #[v] }) (.code a u))

theorem unwind_sw {k : List Item} {base : List Frame} {f fr' : Frame} {t t' : List Item} {w : World} (hf : FR X Fb wr ρ (wt f t) fr') (hm : f.mode = .returning) (m : Bool) (hd : f.defers ≠ []) :
    PairS k base (unwind X.P m (wt f t) base none w) (unwind X.P m (wt f t') base none w) := by
  obtain ⟨fn, tmps, todo, defers, mode, kind, ro⟩ := f
  obtain rfl : mode = .returning := hm
  obtain rfl : kind = .normal := hf.kind
  have hds : DsR ρ defers fr'.defers := hf.defers
  generalize fr'.defers = ds at hds
  cases hds with
  | nil => exact absurd rfl hd
  | @cons r r' l l' a b =>
    unfold unwind wt
    dsimp only
    generalize (Instr.takeDeferred r).runT X.P w #[] = p0
    obtain ⟨r0, es0⟩ := p0
    cases r0 with
    | halt h wx => exact PairS.after PairS.ended
    | ok v wx => exact PairS.after (PairS.ret ⟨fn, tmps, [], _, .returning, .normal, ro⟩ t t' rfl wx #[])

theorem step_sw (S : X.Set Fb wr sp) {k : List Item} {base : List Frame} {fr fr' gr : Frame} {up gup : List Frame} {w w' : World} (hsw : Sw k fr up gr gup) (hf : FR X Fb wr ρ fr fr') (hw : WR X ρ w w') (m : Bool) (hB : Bot (fr :: up)) (hgo : fr.mode = .run ∨ fr.defers ≠ [] ∨ up ≠ []) :
    PairS k base (stepG X.P m (G fr (up ++ base)) w) (stepG X.P m (G gr (gup ++ base)) w) := by
  have ret : ∀ {f : Frame} {t t' : List Item}, f.mode = .returning → FR X Fb wr ρ (wt f t) fr' → f.defers ≠ [] → PairS k base (stepG X.P m (G (wt f t) base) w) (stepG X.P m (G (wt f t') base) w) := fun {f t t'} hm hf hd => by
    rw [stepG_ret _ _ _ _ _ (show (wt f t).mode = .returning from hm), stepG_ret _ _ _ _ _ (show (wt f t').mode = .returning from hm)]
    exact unwind_sw hf hm m hd
  cases hsw with
  | @ret f t t' hm =>
    refine ret hm hf ?_
    rcases hgo with h | h | h
    · rw [show (wt f t).mode = .returning from hm] at h; cases h
    · exact h
    · exact absurd rfl h
  | @bot f t t' h =>
    rcases hf.run with hm | hm
    · have hm : f.mode = .run := hm
      have hro : f.roundOf = none := hB (wt f t) (by simp)
      show PairS k base (stepG X.P m (G (wt f t) base) w) (stepG X.P m (G (wt f t') base) w)
      rw [stepG_run _ _ _ _ _ (show (wt f t).mode = .run from hm), stepG_run _ _ _ _ _ (show (wt f t').mode = .run from hm)]
      exact exec_sw S h hf hw hm m hro
    · have hm : f.mode = .returning := hm
      refine ret hm hf ?_
      rcases hgo with h | h | h
      · rw [show (wt f t).mode = .returning from hm] at h; cases h
      · exact h
      · exact absurd rfl h
  | @above _ up f t t' h =>
    rw [List.append_assoc, List.append_assoc]
    have go : ∀ {fr1 : Frame} {up1 : List Frame} {w1 : World} {es : Array Event}, (∀ base, stepG X.P m (G fr (up ++ base)) w = .go (G fr1 (up1 ++ base)) w1 es) →
        PairS k base (stepG X.P m (G fr (up ++ ([wt f t] ++ base))) w) (stepG X.P m (G fr (up ++ ([wt f t'] ++ base))) w) := fun {fr1 up1 w1 es} e =>
      .inl ⟨fr1, up1 ++ [wt f t], fr1, up1 ++ [wt f t'], w1, es, by rw [e, List.append_assoc], by rw [e, List.append_assoc], .sw (.above h)⟩
    by_cases hu : up = []
    · subst hu
      rcases step_bc S hf hw m with (⟨fr1, up1, w1, es, e⟩ | e) | ⟨v, w1, es, e⟩
      · exact go e
      · exact .inr (e _)
      · exact .inl ⟨_, [], _, [], w1, es, e _ _, e _ _, finish_aft h v⟩
    · have hgo : BaS (fun base => stepG X.P m (G fr (up ++ base)) w) := by
        rcases hf.run with hm | hm
        · have e : (fun base => stepG X.P m (G fr (up ++ base)) w) = fun base => stepG.exec X.P m true fr (up ++ base) none w := funext fun base => stepG_run _ _ _ _ _ hm
          rw [e]
          exact exec_ba S hf hw hm m fun _ => hu
        · have e : (fun base => stepG X.P m (G fr (up ++ base)) w) = fun base => unwind X.P m fr (up ++ base) none w := funext fun base => stepG_ret _ _ _ _ _ hm
          rw [e]
          exact unwind_ba S hf hm m (.inr hu)
      rcases hgo with ⟨fr1, up1, w1, es, e⟩ | e
      · exact go e
      · exact .inr (e _)
end
end Go.Proofs.YtkpekiajdlolnabGreat.Sim

/-
  THE SWAP, fourth text: a lone piece beside leavers, whatever the rest behind it.
-/
namespace Go.Proofs.YtkpekiajdlolnabGreat.Ph
open Go Go.Conc Go.ConcN Go.Proofs.YtkpekiajdlolnabGreat.Sim

section
variable {X : Cx} {Fb : FuncId → Bool} {SB : Blocks} {Q : Frame → List Frame → World → Prop}

theorem step_sh2 {ρ : Rel} {wr : Bool} {sp : FuncId → Bool} (S : X.Set Fb wr sp) {cs : List Frame} {fr fr' : Frame} {w w' : World} (hf : FR X Fb wr ρ fr fr') (hw : WR X ρ w w') (m : Bool) (hne : fr.roundOf.isSome → cs ≠ []) (hgo : fr.mode = .run ∨ fr.defers ≠ [] ∨ cs ≠ []) :
    ShS (fun w => stepG X.P m (G fr cs) w) w := by
  rcases hf.run with hm | hm
  · have e : (fun w => stepG X.P m (G fr cs) w) = fun w => stepG.exec X.P m true fr cs none w := funext fun w => stepG_run _ _ _ _ _ hm
    rw [e]
    exact exec_sh S hf hw hm m hne
  · have e : (fun w => stepG X.P m (G fr cs) w) = fun w => unwind X.P m fr cs none w := funext fun w => stepG_ret _ _ _ _ _ hm
    rw [e]
    exact unwind_sh S hf hw hm m (hgo.resolve_left (by rw [hm]; intro h; cases h))

theorem beside_key (hPP : X.P' = X.P) (S : X.Set Fb true (fun _ => false)) (hQ : ∀ fr cs w, Q fr cs w → ∀ ch, fr.mode ≠ .panicking ch) {fr : Frame} {w : World} {ρ : Rel} {up base : List Frame} {wc : World}
    {nf : Tape → Frame} {nc : Tape → List Frame} {nw : Tape → World} {ne : Tape → Array Event} (hstep : ∀ τ : Tape, (∀ i q, i < w.drawn → τ i q = w.tape i q) → stepG X.P true (G fr (up ++ [c0])) { w with tape := τ } = .go (G (nf τ) (nc τ)) (nw τ) (ne τ))
    (hm : ∀ τ : Tape, (∀ i q, i < w.drawn → τ i q = w.tape i q) → LMust X.P Q (nf τ) (nc τ) (nw τ))
    (hf : FR X Fb true ρ fr fr) (hu : FsR X Fb true ρ up up) (hw : WN X ρ w wc) (hs : Same w wc) (hn : NB w) (hB : Bot (fr :: up)) :
    (fr.mode = .run ∨ fr.defers ≠ [] ∨ up ≠ []) ∧ ∀ d, ∃ fr1 up1 w1 ρ1 es, stepG X.P true (G fr (up ++ base)) (wc.at d) = .go (G fr1 (up1 ++ base)) (shf wc.tape (w.drawn, d) w1) es ∧
        (∃ τ, (Agree w τ) ∧ fr1 = nf τ ∧ up1 ++ [c0] = nc τ ∧ w1 = nw τ) ∧ FR X Fb true ρ1 fr1 fr1 ∧ FsR X Fb true ρ1 up1 up1 ∧ WR X ρ1 w1 (shf wc.tape (w.drawn, d) w1) ∧ ρ.le ρ1 ∧ NB w1 ∧ Bot (fr1 :: up1) ∧
        StepOK (rng ρ) (own X ρ) (wc.at d) (rng ρ1) (own X ρ1) (shf wc.tape (w.drawn, d) w1) es := by
  have hgo0 : fr.mode = .run ∨ fr.defers ≠ [] ∨ up ≠ [] := by
    refine Classical.byContradiction fun hgo => ?_
    have hup : up = [] := Classical.byContradiction fun h => hgo (.inr (.inr h))
    subst hup
    obtain ⟨τ0, ha0, k0⟩ := hw
    have hst : stepG X.P true (G fr [c0]) (re w τ0) = .go (G (nf τ0) (nc τ0)) (nw τ0) (ne τ0) := hstep τ0 ha0
    obtain ⟨h1, h2, h3⟩ := end_panics S hf k0 hn (fun h => hgo (h.imp id .inl)) hst
    exact must_no_panic hQ (hm τ0 ha0) h1 h2 h3
  refine ⟨hgo0, fun d => ?_⟩
  let τ : Tape := fun i q => if i < w.drawn then w.tape i q else wc.tape (i - w.drawn + d) q
  have ha : Agree w τ := fun i q hi => if_pos hi
  have hfit : Fit wc.tape (w.drawn, d) (re w τ) := ⟨Nat.le_refl _, fun i q hi => by
    have hi' : ¬ i < w.drawn := Nat.not_lt.2 hi
    exact (if_neg hi').symm⟩
  have esh : shf wc.tape (w.drawn, d) (re w τ) = wc.at d := by
    have h1 := hs.heap; have h2 := hs.os; have h3 := hs.output
    obtain ⟨hp, tp, dr, os, out⟩ := wc
    simp only at h1 h2 h3
    subst h1; subst h2; subst h3
    simp [shf, re, World.at]
  have hw' : WR X ρ (re w τ) (wc.at d) := by
    obtain ⟨τ0, _, k⟩ := hw
    refine ⟨k.fn, k.inj, k.heap, fun i q => ?_, k.sh⟩
    have h1 : ¬ w.drawn + i < w.drawn := by omega
    have h2 : w.drawn + i - w.drawn + d = d + i := by omega
    have h3 : τ (w.drawn + i) q = wc.tape (w.drawn + i - w.drawn + d) q := if_neg h1
    rw [h2] at h3
    exact h3
  have hst : stepG X.P true (G fr (up ++ [c0])) (re w τ) = .go (G (nf τ) (nc τ)) (nw τ) (ne τ) := hstep τ ha
  by_cases hgo : fr.mode = .run ∨ fr.defers ≠ [] ∨ up ≠ []
  · rcases step_ba S hf hw' true hB hgo with ⟨fr1, up1, w1, es, hba⟩ | hba
    · have e1 : stepG X.P true (G fr (up ++ [c0])) (re w τ) = _ := hba [c0]
      rw [hst] at e1
      have e2 : stepG X.P true (G fr (up ++ base)) (re w τ) = _ := hba base
      have hne : fr.roundOf.isSome → up ++ base ≠ [] := fun h => by
        have hup : up ≠ [] := fun hu => by
          subst hu
          rw [hB fr (by simp)] at h; cases h
        simp [hup]
      have hne2 : fr.mode = .run ∨ fr.defers ≠ [] ∨ up ++ base ≠ [] := hgo.imp id (fun h => h.imp id fun h => by simp [h])
      obtain ⟨e3, hfit1⟩ := step_sh2 S (cs := up ++ base) hf hw' true hne hne2 _ _ _ e2 wc.tape (w.drawn, d) hfit
      rw [esh] at e3
      have e3 : stepG X.P true (G fr (up ++ base)) (wc.at d) = _ := e3
      have out := sim_step S (base := base) (base' := base) hf hu hw' hn hB hgo true true
      rw [hPP, e3, e2] at out
      generalize hg : GStep.go (G fr1 (up1 ++ base)) w1 es = s at out
      cases out with
      | @nice f1 f1' u1 u1' ρ1 x1 x1' es1 es1' e h1 h2 h3 h4 h5 h6 h7 h8 =>
        have hgg : fr1 = f1 ∧ up1 ++ base = u1 ++ base ∧ w1 = x1 := by
          injection hg with a b c
          injection a with a1 a2
          exact ⟨a1, a2, b⟩
        obtain ⟨rfl, hu1, rfl⟩ := hgg
        obtain rfl := List.append_cancel_right hu1
        have hee : fr1 = f1' ∧ up1 ++ base = u1' ++ base ∧ shf wc.tape (w.drawn, d) w1 = x1' ∧ es = es1' := by
          injection e with a b c
          injection a with a1 a2
          exact ⟨a1, a2, b, c⟩
        obtain ⟨rfl, hu2, rfl, rfl⟩ := hee
        obtain rfl := List.append_cancel_right hu2
        have e1' : nf τ = fr1 ∧ nc τ = up1 ++ [c0] ∧ nw τ = w1 := by
          injection e1 with a b c
          injection a with a1 a2
          exact ⟨a1, a2, b⟩
        exact ⟨fr1, up1, w1, ρ1, es, e3, ⟨τ, ha, e1'.1.symm, e1'.2.1.symm, e1'.2.2.symm⟩, h1, h2, h3, h4.le, h7, h8, stepOK_of hw' h4 h3 h6⟩
      | special k1 k2 => cases k2
      | @panic f1 u1 ch x1 es1 h1 h2 =>
        exfalso
        have hgg : fr1 = { f1 with mode := .panicking ch } ∧ up1 ++ base = u1 ++ base ∧ w1 = x1 := by
          injection hg with a b c
          injection a with a1 a2
          exact ⟨a1, a2, b⟩
        obtain ⟨rfl, hu1, rfl⟩ := hgg
        obtain rfl := List.append_cancel_right hu1
        have e1' : nf τ = { f1 with mode := .panicking ch } ∧ nc τ = up1 ++ [c0] ∧ nw τ = w1 := by
          injection e1 with a b c
          injection a with a1 a2
          exact ⟨a1, a2, b⟩
        have hmu := hm τ ha
        rw [e1'.1, e1'.2.1, e1'.2.2] at hmu
        exact must_no_panic hQ hmu trivial ⟨_, rfl⟩ (.inl ⟨_, rfl, h1, h2⟩)
      | ended => cases hg
    · exact absurd hst (hba _ _ _ _)
  · exfalso
    have hup : up = [] := Classical.byContradiction fun h => hgo (.inr (.inr h))
    subst hup
    obtain ⟨h1, h2, h3⟩ := end_panics S hf hw' hn (fun h => hgo (h.imp id .inl)) hst
    exact must_no_panic hQ (hm τ ha) h1 h2 h3

/-- a loop that nobody leaves. -/
inductive Loops (n : Nat) : List Item → Prop
  | a (r : List Item) : Loops n (.code (.block n .skip) :: .inLoop (.block n .skip) :: r)
  | b (r : List Item) : Loops n (.code .skip :: .inBlock n :: .inLoop (.block n .skip) :: r)
  | c (r : List Item) : Loops n (.inBlock n :: .inLoop (.block n .skip) :: r)
  | d (r : List Item) : Loops n (.inLoop (.block n .skip) :: r)
/-- what is held of the target: the rest is left (all frames above are gone). -/
def Lefty (k : List Item) (Q : Frame → List Frame → World → Prop) : Prop := ∀ fr cs w, Q fr cs w → cs = [c0] ∧ (fr.mode = .returning ∨ (fr.mode = .run ∧ ∃ k', fr.todo = st k' ∧ (k' = k ∨ ∃ id, exitTo id k = some k')))
theorem Lefty.mode {k : List Item} (h : Lefty k Q) : ∀ fr cs w, Q fr cs w → ∀ ch, fr.mode ≠ .panicking ch := fun fr cs w hq ch e => by
  rcases (h _ _ _ hq).2 with h | ⟨h, _⟩ <;> rw [e] at h <;> cases h
theorem must_loops {k : List Item} (hQ : Lefty k Q) {n : Nat} : ∀ {fr : Frame} {cs : List Frame} {w : World}, LMust X.P Q fr cs w → fr.mode = .run → Loops n fr.todo → False := by
  intro fr cs w h
  induction h with
  | @done fr cs w hq =>
    intro hm hl
    rcases (hQ _ _ _ hq).2 with h | ⟨_, k', h, _⟩
    · rw [hm] at h; cases h
    · rw [h, st_eq] at hl; cases hl
  | @step fr cs w nf nc nw ne hs _ ih =>
    intro hm hl
    have h1 : stepG X.P true (G fr cs) w = .go (G (nf w.tape) (nc w.tape)) (nw w.tape) (ne w.tape) := hs w.tape (fun _ _ _ => rfl)
    rw [stepG_run _ _ _ _ _ hm] at h1
    have fin : ∀ {t : List Item}, stepG.exec X.P true true fr cs none w = .go (G (wt fr t) cs) w #[] → Loops n t → False := fun {t} e hl' => by
      rw [e] at h1
      injection h1 with h1 _ _
      injection h1 with h1 _
      refine ih w.tape (fun _ _ _ => rfl) ?_ ?_
      · rw [← h1]; exact hm
      · rw [← h1]; exact hl'
    obtain ⟨fn, tmps, todo, defers, mode, kind, ro⟩ := fr
    change Loops n todo at hl
    cases hl with
    | a r => exact fin rfl (.b r)
    | b r => exact fin rfl (.c r)
    | c r => exact fin rfl (.d r)
    | d r => exact fin rfl (.a r)
theorem must_land {k : List Item} (hQ : Lefty k Q) {f : Frame} {k' : List Item} {cs : List Frame} {w : World} (h : LMust X.P Q (wt f (st k')) cs w) (hm : f.mode = .run) : Q (wt f (st k')) cs w := by
  generalize hfr : wt f (st k') = fr at h
  cases h with
  | done hq => exact hq
  | step nf nc nw ne hs hn =>
    exfalso
    have h1 : stepG X.P true (G fr cs) w = .go (G (nf w.tape) (nc w.tape)) (nw w.tape) (ne w.tape) := hs w.tape (fun _ _ _ => rfl)
    subst hfr
    rw [stepG_run _ _ _ _ _ (show (wt f (st k')).mode = .run from hm), st_eq] at h1
    have e : stepG.exec X.P true true (wt f (stop k'.length :: sf k')) cs none w = .go (G (wt f (.code (.block k'.length .skip) :: .inLoop (.block k'.length .skip) :: sf k')) cs) w #[] := rfl
    rw [e] at h1
    injection h1 with h1 _ _
    injection h1 with h1 _
    refine must_loops hQ (n := k'.length) (hn w.tape (fun _ _ _ => rfl)) ?_ ?_
    · rw [← h1]; exact hm
    · rw [← h1]; exact .a _
theorem must_late {k : List Item} (hQ : Lefty k Q) {f : Frame} {o : Oper} {cs : List Frame} {w : World} (h : LMust X.P Q (wt f (.inRegion #[o] [] :: st k)) cs w) (hm : f.mode = .run) : Q (wt f (st k)) cs w := by
  generalize hfr : wt f (.inRegion #[o] [] :: st k) = fr at h
  cases h with
  | done hq =>
    exfalso
    subst hfr
    rcases (hQ _ _ _ hq).2 with h | ⟨_, k', h, _⟩
    · have h : f.mode = .returning := h
      rw [hm] at h; cases h
    · have h : Item.inRegion #[o] [] :: st k = st k' := h
      rw [st_eq k'] at h; injection h with h _; cases h
  | step nf nc nw ne hs hn =>
    have h1 : stepG X.P true (G fr cs) w = .go (G (nf w.tape) (nc w.tape)) (nw w.tape) (ne w.tape) := hs w.tape (fun _ _ _ => rfl)
    subst hfr
    rw [stepG_run _ _ _ _ _ (show (wt f (.inRegion #[o] [] :: st k)).mode = .run from hm)] at h1
    have e : stepG.exec X.P true true (wt f (.inRegion #[o] [] :: st k)) cs none w = .go (G (wt f (st k)) cs) w #[] := rfl
    rw [e] at h1
    injection h1 with h1 h2 _
    injection h1 with h1 h3
    have := hn w.tape (fun _ _ _ => rfl)
    rw [← h1, ← h2, ← h3] at this
    exact must_land hQ this hm
end
end Go.Proofs.YtkpekiajdlolnabGreat.Ph

/-
  THE SWAP, fifth text: the piece.
-/
namespace Go.Proofs.YtkpekiajdlolnabGreat.Ph
open Go Go.Conc Go.ConcN Go.Proofs.YtkpekiajdlolnabGreat.Sim

section
variable {X : Cx} {Fb : FuncId → Bool} {SB : Blocks} {Q : Frame → List Frame → World → Prop}

/-- where the piece is left: lone frame and real frame. -/
inductive Way (k : List Item) : Frame → Frame → Prop
  | land {f : Frame} {k' : List Item} : f.mode = .run → (k' = k ∨ ∃ id, exitTo id k = some k') → Way k (wt f (st k')) (wt f k')
  | ret {f : Frame} {t t' : List Item} : f.mode = .returning → Way k (wt f t) (wt f t')

theorem st_length {k k' : List Item} (h : k' = k ∨ ∃ id, exitTo id k = some k') : (st k').length ≤ (st k).length := by
  rcases h with rfl | ⟨id, h⟩
  · exact Nat.le_refl _
  · have : ∀ k, exitTo id k = some k' → (st k').length ≤ (sf k).length := by
      intro k
      induction k with
      | nil => intro h; cases h
      | cons a k ih =>
        cases a with
        | inBlock id' =>
          intro h
          have e : exitTo id (.inBlock id' :: k) = if id' == id then some k else exitTo id k := rfl
          rw [e] at h
          rw [sf]
          split at h
          · cases h; simp
          · have := ih h
            rw [st_eq k]; simp; omega
        | _ =>
          intro h
          rw [sf]
          · exact ih h
          · intro _ e; cases e
    have := this k h
    rw [st_eq k]; simp; omega

/-- what is to be shown of a state in which the target may be met. -/
theorem Lefty.out {k : List Item} (hQ : Lefty k Q) {fr gr : Frame} {up gup : List Frame} {w : World} (hsw : Sw k fr up gr gup) (hq : Q fr (up ++ [c0]) w) : up = [] ∧ gup = [] ∧ Way k fr gr := by
  obtain ⟨hc, ho⟩ := hQ _ _ _ hq
  cases hsw with
  | ret hm => exact ⟨rfl, rfl, .ret hm⟩
  | @above up f t t' h =>
    have := congrArg List.length hc
    simp at this
  | @bot f t t' h =>
    rcases ho with ho | ⟨hm, k', ho, hk'⟩
    · exact ⟨rfl, rfl, .ret ho⟩
    · exfalso
      have ho : t = st k' := ho
      cases h with
      | code a u =>
        have h1 := congrArg List.length ho
        have h2 := st_length hk'
        simp at h1
        omega
      | op _ _ _ =>
        rw [st_eq k'] at ho; injection ho with h _; cases h

theorem bareFR {ρ : Rel} {fr : Frame} (hf : FR X Fb true ρ fr fr) : FR X Fb true ρ (wt fr []) (wt fr []) := ⟨hf.fn, hf.same, hf.tmps, .nil, hf.defers, hf.mode, hf.run, hf.kind, hf.kind', hf.round⟩
theorem WR.self {Fb : FuncId → Bool} {sp : FuncId → Bool} (S : X.Set Fb true sp) {ρ : Rel} {w wc : World} (hw : WN X ρ w wc) (hs : Same w wc) (d : Nat) : WR X ρ (wc.at d) (wc.at d) := by
  obtain ⟨τ0, _, k0⟩ := hw
  refine ⟨k0.fn, k0.inj, fun {a b} hab => ?_, fun _ _ => rfl, fun a ha => absurd ha (S.wrs rfl a)⟩
  obtain ⟨o, o', k1, k2, k3⟩ := k0.heap hab
  exact ⟨o, o', by show wc.heap[a]? = _; rw [hs.heap]; exact k1, k2, k3⟩

def Swapped (X : Cx) (Fb : FuncId → Bool) (SB : Blocks) (k : List Item) (Q : Frame → List Frame → World → Prop) (ρ : Rel) (gs : Array Goroutine) (base : List Frame) (wc : World) (sl : Option (Nat × Nat)) (t : Trace) : Prop :=
  ∃ (N : Nat) (gs' : Array Goroutine) (fr2 gr2 : Frame) (w2 wc2 : World) (sl' : Option (Nat × Nat)) (t' : Trace) (q' : Nat → Nat) (ρ2 : Rel),
        runNT X.P N (crowd gs wc sl) t = (.next (crowd gs' wc2 sl'), t') ∧ Q fr2 [c0] w2 ∧ Way k fr2 gr2 ∧ gs'.size = gs.size ∧ gs'[0]? = some (G gr2 base) ∧ Same w2 wc2 ∧ FR X Fb true ρ2 (wt fr2 []) (wt fr2 []) ∧ WN X ρ2 w2 wc2 ∧ ρ.le ρ2 ∧ NB w2 ∧
          Leavers X.P t' gs' q' ∧ PastW SB wc2 gs'.size t' ∧ FootOK SB (rng ρ2) (own X ρ2) wc2

theorem beside_swap (hPP : X.P' = X.P) (S : X.Set Fb true (fun _ => false)) {k : List Item} (hQ : Lefty k Q) : ∀ {fr : Frame} {cs : List Frame} {w : World}, LMust X.P Q fr cs w →
    ∀ {ρ : Rel} {gr : Frame} {up gup base : List Frame} {gs : Array Goroutine} {wc : World} {sl : Option (Nat × Nat)} {t : Trace} {q : Nat → Nat}, cs = up ++ [c0] → Sw k fr up gr gup → FR X Fb true ρ fr fr → FsR X Fb true ρ up up → WN X ρ w wc → Same w wc → NB w → Bot (fr :: up) →
      gs[0]? = some (G gr (gup ++ base)) → Leavers X.P t gs q → PastW SB wc gs.size t → FootOK SB (rng ρ) (own X ρ) wc →
      Swapped X Fb SB k Q ρ gs base wc sl t := by
  intro fr cs w h
  induction h with
  | @done fr cs w hq =>
    rintro ρ gr up gup base gs wc sl t q rfl hsw hf hu hw hs hn hB h0 hL hP hF
    obtain ⟨rfl, rfl, ho⟩ := hQ.out hsw hq
    exact ⟨0, gs, fr, gr, w, wc, sl, t, q, ρ, rfl, hq, ho, rfl, h0, hs, bareFR hf, hw, ρ.le_refl, hn, hL, hP, hF⟩
  | @step fr cs w nf nc nw ne hstep hm ih =>
    rintro ρ gr up gup base gs wc sl t q rfl hsw hf hu hw hs hn hB h0 hL hP hF
    obtain ⟨hgo, key⟩ := beside_key hPP S hQ.mode hstep hm hf hu hw hs hn hB
    have key2 : ∀ d, ∃ fr1 up1 gr1 gup1 w1 ρ1 es, stepG X.P true (G gr (gup ++ base)) (wc.at d) = .go (G gr1 (gup1 ++ base)) (shf wc.tape (w.drawn, d) w1) es ∧ Aft k fr1 up1 gr1 gup1 ∧
        (∃ τ, (Agree w τ) ∧ fr1 = nf τ ∧ up1 ++ [c0] = nc τ ∧ w1 = nw τ) ∧ FR X Fb true ρ1 fr1 fr1 ∧ FsR X Fb true ρ1 up1 up1 ∧ WR X ρ1 w1 (shf wc.tape (w.drawn, d) w1) ∧ ρ.le ρ1 ∧ NB w1 ∧ Bot (fr1 :: up1) ∧
        StepOK (rng ρ) (own X ρ) (wc.at d) (rng ρ1) (own X ρ1) (shf wc.tape (w.drawn, d) w1) es := fun d => by
      obtain ⟨fr1, up1, w1, ρ1, es, e, hτ, h1, h2, h3, hle, h7, h8, ok⟩ := key d
      have hwz := WR.self S hw hs d
      rcases step_sw S (base := base) hsw hf hwz true hB hgo with ⟨fr2, up2, gr2, gup2, w2, es2, e1, e2, ha⟩ | hno
      · rw [e] at e1
        injection e1 with a1 a2 a3
        injection a1 with a1 a4
        obtain rfl := a1
        obtain rfl := List.append_cancel_right a4
        obtain rfl := a2
        obtain rfl := a3
        exact ⟨fr1, up1, gr2, gup2, w1, ρ1, es, e2, ha, hτ, h1, h2, h3, hle, h7, h8, ok⟩
      · exact absurd e (hno _ _ _)
    have hpos : 0 < gs.size := (Array.getElem?_eq_some_iff.1 h0).1
    obtain ⟨N, gs1, a1, d, wc1, es, sl1, t1, q1, hr, hgo1, hz, h01, hL1, hP1, _⟩ := beside_one (P := X.P) (SB := SB) (sl := sl) h0 rfl hL hP fun d => by
      obtain ⟨fr1, up1, gr1, gup1, w1, ρ1, es, e, _, _, _, _, _, _, _, _, ok⟩ := key2 d
      have hFd : FootOK SB (rng ρ) (own X ρ) (wc.at d) := ⟨hF.apart, hF.low, hF.own, hF.foot⟩
      have hF' := hFd.step ok
      exact ⟨_, _, es, e, ok.size, fun x hx => ⟨evL_of (ok.ev x hx) hF'.apart hF'.foot, fun y hy => (evF_mem (ok.ev x hx) hy).1⟩⟩
    obtain ⟨fr1, up1, gr1, gup1, w1, ρ1, es', e, ha, ⟨τ, hag, rfl, hnc, rfl⟩, h1, h2, h3, hle, h7, h8, ok⟩ := key2 d
    rw [e] at hgo1
    have hgg : G gr1 (gup1 ++ base) = a1 ∧ shf wc.tape (w.drawn, d) (nw τ) = wc1 ∧ es' = es := by
      injection hgo1 with a b c
      exact ⟨a, b, c⟩
    obtain ⟨rfl, rfl, rfl⟩ := hgg
    have hFd : FootOK SB (rng ρ) (own X ρ) (wc.at d) := ⟨hF.apart, hF.low, hF.own, hF.foot⟩
    have hF1 := hFd.step ok
    have hsame : Same (nw τ) (shf wc.tape (w.drawn, d) (nw τ)) := ⟨rfl, rfl, rfl⟩
    have fin : ∀ {gr1 : Frame} {gup1 : List Frame}, gs1[0]? = some (G gr1 (gup1 ++ base)) → Sw k (nf τ) up1 gr1 gup1 → Swapped X Fb SB k Q ρ gs base wc sl t := fun {gr1 gup1} h01 hs1 => by
      obtain ⟨N', gs', fr2, gr2, w2, wc2, sl', t', q', ρ2, hr', hq, ho, hz', h0', hs', g1, g3, g4, g5, hL', hP', hF'⟩ := ih τ hag (sl := sl1) hnc.symm hs1 h1 h2 (WN.of h3) hsame h7 h8 h01 hL1 hP1 hF1
      exact ⟨N + N', gs', fr2, gr2, w2, wc2, sl', t', q', ρ2, runNT_trans _ hr hr', hq, ho, hz'.trans hz, h0', hs', g1, g3, Rel.le_trans hle g4, g5, hL', hP', hF'⟩
    have hmu := hm τ hag
    rw [← hnc] at hmu
    generalize nf τ = fr1 at *
    cases ha with
    | sw hs1 => exact fin h01 hs1
    | panic hp => rcases h1.run with h | h <;> rw [hp] at h <;> cases h
    | ld hl =>
      cases hl with
      | @land f k' hk' =>
        rcases h1.run with hmo | hmo
        · have hq := must_land hQ hmu hmo
          exact ⟨N, gs1, wt f (st k'), wt f k', nw τ, _, sl1, t1, q1, ρ1, hr, (by have := (hQ _ _ _ hq).1; rw [this] at hq; exact hq), .land hmo hk', hz, h01, hsame, bareFR h1, WN.of h3, hle, h7, hL1, hP1, hF1⟩
        · exact fin (gup1 := []) h01 (.ret (f := f) hmo)
      | @late f o =>
        rcases h1.run with hmo | hmo
        · have hq := must_late hQ hmu hmo
          exact ⟨N, gs1, wt f (st k), wt f k, nw τ, _, sl1, t1, q1, ρ1, hr, (by have := (hQ _ _ _ hq).1; rw [this] at hq; exact hq), .land hmo (.inl rfl), hz, h01, hsame, (show FR X Fb true ρ1 (wt f []) (wt f []) from bareFR (fr := wt f (.inRegion #[o] [] :: st k)) h1), WN.of h3, hle, h7, hL1, hP1, hF1⟩
        · exact fin (gup1 := []) h01 (.ret (f := f) hmo)
end
end Go.Proofs.YtkpekiajdlolnabGreat.Ph

/-
  THE COMPANY's STATE between two pieces; pieces of code, and single operations, carried out beside leavers.
-/
namespace Go.Proofs.YtkpekiajdlolnabGreat.Ph
open Go Go.Conc Go.ConcN Go.Proofs.YtkpekiajdlolnabGreat.Sim

/-- where goroutine 0 stands between two pieces: its frames (their rests apart) name what lies within ρ; nobody else does but leave. -/
structure Co (X : Cx) (Fb bl : FuncId → Bool) (SB : Blocks) (ρ : Rel) (gs : Array Goroutine) (fr : Frame) (cs : List Frame) (w : World) (t : Trace) (q : Nat → Nat) : Prop where
  g0 : gs[0]? = some (G fr cs)
  leavers : Leavers X.P t gs q
  past : PastW SB w gs.size t
  foot : FootOK SB (rng ρ) (own X ρ) w
  fr : bl fr.fn = false → FR X Fb true ρ (wt fr []) (wt fr [])
  cs : ∀ c ∈ cs, bl c.fn = false → FR X Fb true ρ (wt c []) (wt c [])
  wr : WR X ρ w w
  nb : NB w

/-- what the company comes to. -/
def Comes (X : Cx) (Fb bl : FuncId → Bool) (SB : Blocks) (ρ : Rel) (gs : Array Goroutine) (w : World) (sl : Option (Nat × Nat)) (t : Trace) (cs : List Frame) (Z : Frame → World → Prop) : Prop :=
  ∃ (gs' : Array Goroutine) (fr' : Frame) (w' : World) (sl' : Option (Nat × Nat)) (t' : Trace) (q' : Nat → Nat) (ρ' : Rel), Runs X.P gs w sl t gs' w' sl' t' ∧ gs'.size = gs.size ∧ ρ.le ρ' ∧ Z fr' w' ∧ Co X Fb bl SB ρ' gs' fr' cs w' t' q'

section
variable {X : Cx} {Fb bl : FuncId → Bool} {SB : Blocks}

theorem FR.mono' {ρ ρ' : Rel} (h : ρ.le ρ') {f : Frame} (k : FR X Fb true ρ (wt f []) (wt f [])) : FR X Fb true ρ' (wt f []) (wt f []) := k.mono h
theorem fr_with {ρ : Rel} {f : Frame} {t : List Item} (h : FR X Fb true ρ (wt f []) (wt f [])) (ht : IsR X Fb true ρ t t) : FR X Fb true ρ (wt f t) (wt f t) :=
  ⟨h.fn, h.same, h.tmps, ht, h.defers, h.mode, h.run, h.kind, h.kind', h.round⟩

theorem lefty_tgt {b : Frame} {k : List Item} {Q : Exit → Act → World → Prop} : Lefty k (Tgt b (st k) Q) := by
  rintro fr cs w ⟨hc, e, a, _, hl⟩
  refine ⟨hc, ?_⟩
  cases e with
  | normal => obtain rfl := hl; exact .inr ⟨rfl, k, rfl, .inl rfl⟩
  | exit id =>
    obtain ⟨k', h1, rfl⟩ := hl
    rw [exitTo_st] at h1
    obtain ⟨k1, h2, rfl⟩ := Option.map_eq_some_iff.1 h1
    exact .inr ⟨rfl, k1, rfl, .inr ⟨id, h2⟩⟩
  | ret => obtain ⟨todo, rfl⟩ := hl; exact .inl rfl
  | _ => exact hl.elim

theorem suffix_of {k k' : List Item} (h : k' = k ∨ ∃ id, exitTo id k = some k') : k' <:+ k := by
  rcases h with rfl | ⟨id, h⟩
  · exact List.suffix_refl _
  · exact exitTo_suffix h
theorem way_lands {b : Frame} {k : List Item} {fr gr : Frame} {e : Exit} {a : Act} (h : Way k fr gr) (hl : Lands b (st k) e a fr) : Lands b k e a gr := by
  cases h with
  | @land f k' hm hk =>
    have key : ∀ k1, (k1 = k ∨ ∃ id, exitTo id k = some k1) → wt f (st k') = b.at a (st k1) → wt f k' = b.at a k1 := fun k1 h1 e => by
      have e1 : st k' = st k1 := congrArg Frame.todo e
      have e2 := st_inj (suffix_of hk) (suffix_of h1) e1
      subst e2
      exact congrArg (wt · k') e
    cases e with
    | normal => exact key k (.inl rfl) hl
    | exit id =>
      obtain ⟨k2, h1, h2⟩ := hl
      rw [exitTo_st] at h1
      obtain ⟨k1, h3, rfl⟩ := Option.map_eq_some_iff.1 h1
      exact ⟨k1, h3, key k1 (.inr ⟨id, h3⟩) h2⟩
    | ret =>
      obtain ⟨todo, hl⟩ := hl
      have : f.mode = .returning := congrArg Frame.mode hl
      rw [hm] at this; cases this
    | _ => exact hl.elim
  | @ret f t t' hm =>
    cases e with
    | normal =>
      have : f.mode = .run := congrArg Frame.mode hl
      rw [hm] at this; cases this
    | exit id =>
      obtain ⟨k2, h1, h2⟩ := hl
      have : f.mode = .run := congrArg Frame.mode h2
      rw [hm] at this; cases this
    | ret =>
      obtain ⟨todo, hl⟩ := hl
      exact ⟨t', congrArg (wt · t') hl⟩
    | _ => exact hl.elim

/-- from a lone must over the sanitised stack. -/
theorem Co.carry (hPP : X.P' = X.P) (S : X.Set Fb true (fun _ => false)) {ρ : Rel} {gs : Array Goroutine} {b fr gr : Frame} {k : List Item} {cs : List Frame} {w : World} {sl : Option (Nat × Nat)} {t : Trace} {q : Nat → Nat} {Q : Exit → Act → World → Prop}
    (h : Co X Fb bl SB ρ gs gr cs w t q) (hsw : Sw k fr [] gr []) (hf : FR X Fb true ρ fr fr) (hro : fr.roundOf = none) (hQS : ∀ e a w wc, Same w wc → Q e a w → Q e a wc)
    (hm : LMust X.P (Tgt b (st k) Q) fr [c0] w) :
    Comes X Fb bl SB ρ gs w sl t cs (fun fr' w' => ∃ e a', Q e a' w' ∧ Lands b k e a' fr') := by
  have hB : Bot [fr] := by
    intro f hf
    simp at hf
    subst hf
    exact hro
  obtain ⟨N, gs', fr2, gr2, w2, wc2, sl', t', q', ρ2, hr, ⟨_, e, a', hq, hl⟩, ho, hz, h0', hs, g1, g3, g4, g5, hL', hP', hF'⟩ := beside_swap hPP S lefty_tgt hm (up := []) (gup := []) (base := cs) rfl hsw hf .nil (WN.of h.wr) (Same.refl w) h.nb hB h.g0 h.leavers h.past h.foot
  refine ⟨gs', gr2, wc2, sl', t', q', ρ2, ⟨N, hr⟩, hz, g4, ⟨e, a', hQS _ _ _ _ hs hq, way_lands ho hl⟩, ⟨h0', hL', hP', hF', ?_, fun c hc hb => (h.cs c hc hb).mono g4, WR.self S g3 hs wc2.drawn, ?_⟩⟩
  · intro _; cases ho <;> exact g1
  · exact g5

/-- ████ A PIECE OF CODE. ████ -/
theorem Co.code (hPP : X.P' = X.P) (S : X.Set Fb true (fun _ => false)) {ρ : Rel} {gs : Array Goroutine} {b : Frame} {a : Act} {c : Code} {k : List Item} {cs : List Frame} {w : World} {sl : Option (Nat × Nat)} {t : Trace} {q : Nat → Nat} {Q : Exit → Act → World → Prop}
    (h : Co X Fb bl SB ρ gs (b.at a (.code c :: k)) cs w t q) (hbl : bl b.fn = false) (hc : codeOk X.P X.P Fb true c = true) (hpl : Plain k Q) (hQS : ∀ e a w wc, Same w wc → Q e a w → Q e a wc)
    (hp : ∀ τ, Agree w τ → c.wp X.P Q a (re w τ)) :
    Comes X Fb bl SB ρ gs w sl t cs (fun fr' w' => ∃ e a', Q e a' w' ∧ Lands b k e a' fr') := by
  have hf : FR X Fb true ρ (b.at a (.code c :: st k)) (b.at a (.code c :: st k)) := fr_with (f := b.at a []) (h.fr hbl) (.cons (.code (by rw [hPP]; exact hc)) (IsR.st X Fb true ρ k))
  have hB : Bot [b.at a (.code c :: st k)] := by
    intro f hf
    simp at hf
    subst hf
    rfl
  have hinv : Inv X Fb true (b.at a (.code c :: st k)) [c0] w := ⟨ρ, _, [], [], w, rfl, hf, .nil, h.wr, h.nb, hB⟩
  have hpl' : Plain (st k) Q := fun e a w hq => by
    have := hpl e a w hq
    cases e with
    | exit id => obtain ⟨k', e⟩ := this; exact ⟨st k', by rw [exitTo_st, e]; rfl⟩
    | _ => exact this
  have hm := must_of_piece S hinv hpl' hQS (b := b) (k := st k) (fun τ ha => hp τ ha b (st k) [c0])
  exact h.carry hPP S (fr := b.at a (.code c :: st k)) (.bot (f := b.at a []) (.code (.code c) [])) hf rfl hQS hm

theorem must_next {P : Program} {Q : Frame → List Frame → World → Prop} {fr fr1 : Frame} {cs : List Frame} {w : World} (h : LMust P Q fr cs w) (hq : ¬ Q fr cs w) (hs : stepG P true (G fr cs) w = .go (G fr1 cs) w #[]) : LMust P Q fr1 cs w := by
  cases h with
  | done h => exact absurd h hq
  | step nf nc nw ne h1 h2 =>
    have e : stepG P true (G fr cs) w = .go (G (nf w.tape) (nc w.tape)) (nw w.tape) (ne w.tape) := h1 w.tape (fun _ _ _ => rfl)
    rw [hs] at e
    injection e with e1 e2 _
    injection e1 with e1 e3
    have := h2 w.tape (fun _ _ _ => rfl)
    rw [← e1, ← e2, ← e3] at this
    exact this

/-- ████ A SINGLE OPERATION of a region (its call, too). ████ -/
theorem Co.op (hPP : X.P' = X.P) (S : X.Set Fb true (fun _ => false)) {ρ : Rel} {gs : Array Goroutine} {b : Frame} {a : Act} {ops : Array Oper} {i : Nat} {td : List Nat} {o : Oper} {k : List Item} {cs : List Frame} {w : World} {sl : Option (Nat × Nat)} {t : Trace} {q : Nat → Nat} {Q : Act → World → Prop}
    (h : Co X Fb bl SB ρ gs (b.at a (.inRegion ops (i :: td) :: k)) cs w t q) (hbl : bl b.fn = false) (ho : ops[i]? = some o) (hok : okOp X.P X.P Fb true (bare o) = true) (hwant : Region.wanted o (yielded ops a.tmps) = true) (hQS : ∀ a w wc, Same w wc → Q a w → Q a wc) {id : Nat}
    (hp : ∀ τ, Agree w τ → (Code.region id #[bare o] false).wp X.P (fun e a' w' => e = .normal ∧ Q a' w') a (re w τ)) :
    Comes X Fb bl SB ρ gs w sl t cs (fun fr' w' => ∃ a', Q a' w' ∧ fr' = b.at a' (.inRegion ops td :: k)) := by
  let K : List Item := .inRegion ops td :: k
  have hok' : okOp X.P X.P' Fb true (bare o) = true := by rw [hPP]; exact hok
  have hall : (#[bare o] : Array Oper).toList.all (okOp X.P X.P' Fb true) = true := by simp [hok']
  have hf0 : FR X Fb true ρ (b.at a (.code (.region id #[bare o] false) :: st K)) (b.at a (.code (.region id #[bare o] false) :: st K)) := fr_with (f := b.at a []) (h.fr hbl) (.cons (.code hall) (IsR.st X Fb true ρ K))
  have hf1 : FR X Fb true ρ (b.at a (.inRegion #[bare o] [0] :: st K)) (b.at a (.inRegion #[bare o] [0] :: st K)) := fr_with (f := b.at a []) (h.fr hbl) (.cons (.inRegion [0] hall) (IsR.st X Fb true ρ K))
  have hB : Bot [b.at a (.code (.region id #[bare o] false) :: st K)] := by
    intro f hf
    simp at hf
    subst hf
    rfl
  let Q' : Exit → Act → World → Prop := fun e a' w' => e = .normal ∧ Q a' w'
  have hQ' : ∀ e a w wc, Same w wc → Q' e a w → Q' e a wc := fun e a w wc hs h => ⟨h.1, hQS _ _ _ hs h.2⟩
  have hpl' : Plain (st K) Q' := by rintro e a w ⟨rfl, _⟩; trivial
  have hinv : Inv X Fb true (b.at a (.code (.region id #[bare o] false) :: st K)) [c0] w := ⟨ρ, _, [], [], w, rfl, hf0, .nil, h.wr, h.nb, hB⟩
  have hm := must_of_piece S hinv hpl' hQ' (b := b) (k := st K) (fun τ ha => hp τ ha b (st K) [c0])
  have hm1 : LMust X.P (Tgt b (st K) Q') (b.at a (.inRegion #[bare o] [0] :: st K)) [c0] w := by
    refine must_next hm ?_ rfl
    rintro ⟨_, e, a', ⟨rfl, _⟩, hl⟩
    have := congrArg Frame.todo (show b.at a (.code (.region id #[bare o] false) :: st K) = b.at a' (st K) from hl)
    have h1 := congrArg List.length this
    simp [Frame.at] at h1
  obtain ⟨gs', fr', w', sl', t', q', ρ', h1, h2, h3, ⟨e, a', ⟨rfl, hq⟩, hl⟩, h4⟩ := h.carry hPP S (k := K) (sl := sl) (fr := b.at a (.inRegion #[bare o] [0] :: st K)) (.bot (f := b.at a []) (.op rfl ho hwant)) hf1 rfl hQ' hm1
  exact ⟨gs', fr', w', sl', t', q', ρ', h1, h2, h3, ⟨a', hq, hl⟩, h4⟩

/-- silent steps. -/
inductive Sil (P : Program) : Frame → List Frame → Frame → List Frame → Prop
  | refl (fr : Frame) (cs : List Frame) : Sil P fr cs fr cs
  | step {fr fr1 fr2 : Frame} {cs cs1 cs2 : List Frame} : (∀ w, stepG P true (G fr cs) w = .go (G fr1 cs1) w #[]) → Sil P fr1 cs1 fr2 cs2 → Sil P fr cs fr2 cs2
theorem Sil.runs {P : Program} {fr fr' : Frame} {cs cs' : List Frame} (hs : Sil P fr cs fr' cs') : ∀ {gs : Array Goroutine} {w : World} {sl : Option (Nat × Nat)} {t : Trace} {q : Nat → Nat}, gs[0]? = some (G fr cs) → Leavers P t gs q → PastW SB w gs.size t →
    ∃ (gs' : Array Goroutine) (d : Nat) (sl' : Option (Nat × Nat)) (t' : Trace) (q' : Nat → Nat), Runs P gs w sl t gs' (w.at d) sl' t' ∧ gs'.size = gs.size ∧ gs'[0]? = some (G fr' cs') ∧ Leavers P t' gs' q' ∧ PastW SB (w.at d) gs'.size t' := by
  induction hs with
  | refl fr cs => exact fun {gs w sl t q} h0 hL hP => ⟨gs, w.drawn, sl, t, q, ⟨0, rfl⟩, rfl, h0, hL, hP⟩
  | step h1 _ ih =>
    intro gs w sl t q h0 hL hP
    obtain ⟨N, gs1, a1, d, w1, es, sl1, t1, q1, hr, hgo, hz, h01, hL1, hP1, _⟩ := beside_one (P := P) (SB := SB) (sl := sl) h0 rfl hL hP fun d => ⟨_, _, _, h1 _, Nat.le_refl _, by simp⟩
    rw [h1] at hgo
    injection hgo with e1 e2 e3
    subst e1; subst e2
    obtain ⟨gs2, d2, sl2, t2, q2, hr2, hz2, h02, hL2, hP2⟩ := ih (sl := sl1) h01 hL1 hP1
    exact ⟨gs2, d2, sl2, t2, q2, Runs.trans ⟨N, hr⟩ hr2, hz2.trans hz, h02, hL2, hP2⟩
theorem Co.sil {ρ : Rel} {gs : Array Goroutine} {fr fr' : Frame} {cs cs' : List Frame} {w : World} {sl : Option (Nat × Nat)} {t : Trace} {q : Nat → Nat} (h : Co X Fb bl SB ρ gs fr cs w t q) (hs : Sil X.P fr cs fr' cs')
    (hf : bl fr'.fn = false → FR X Fb true ρ (wt fr' []) (wt fr' [])) (hc : ∀ c ∈ cs', bl c.fn = false → FR X Fb true ρ (wt c []) (wt c [])) :
    ∃ (gs' : Array Goroutine) (d : Nat) (sl' : Option (Nat × Nat)) (t' : Trace) (q' : Nat → Nat), Runs X.P gs w sl t gs' (w.at d) sl' t' ∧ gs'.size = gs.size ∧ Co X Fb bl SB ρ gs' fr' cs' (w.at d) t' q' := by
  obtain ⟨gs', d, sl', t', q', h1, h2, h3, h4, h5⟩ := hs.runs (SB := SB) (sl := sl) h.g0 h.leavers h.past
  exact ⟨gs', d, sl', t', q', h1, h2, ⟨h3, h4, h5, ⟨h.foot.apart, h.foot.low, h.foot.own, h.foot.foot⟩, hf, hc, ⟨h.wr.fn, h.wr.inj, h.wr.heap, fun _ _ => rfl, h.wr.sh⟩, h.nb⟩⟩
end
end Go.Proofs.YtkpekiajdlolnabGreat.Ph

/-
  THE CLASS of this program's functions that the simulation serves: all that do not lead to Scan.
-/
namespace Go.Proofs.YtkpekiajdlolnabGreat.Ph
open Go Go.Conc Go.ConcN Go.Proofs.YtkpekiajdlolnabGreat.Sim

def fbL : List Nat := [10, 12, 14, 16, 17, 18, 19, 22, 23, 24, 25, 26, 28, 29, 30, 31, 32, 33, 34, 35, 36, 37, 38, 39, 40, 41, 42, 43, 44, 45, 46, 47, 48, 49, 50, 51, 52, 56, 58, 59, 60, 61, 62, 63, 64, 65, 66, 67, 68, 69, 70, 71, 72, 73, 74, 75, 76, 90, 91, 97, 98, 99, 100, 101, 102, 103, 104, 105, 106, 107, 108, 109, 110, 111, 112, 113, 114, 115, 116, 117, 122, 123, 124, 126, 127, 128, 129, 130, 131, 132, 133, 134, 135, 136, 137, 138, 139, 140, 141, 142, 143, 144, 145, 146, 147, 148, 149, 150, 151, 152, 153, 154, 155, 156, 157, 158, 159]
def fbPL : List Nat := [56, 90, 91, 122, 123, 124, 135, 136, 137, 142, 143, 144, 145, 146, 147, 148, 149, 150, 151, 152, 153, 154, 155, 156, 157, 158, 159]
def fb (f : FuncId) : Bool := fbL.contains f
def fbP (f : FuncId) : Bool := fbPL.contains f
noncomputable def okf (P : Program) (b : FuncId → Bool) (wr : Bool) (f : Nat) : Bool := match P.funcs[f]? with
  | some fn => match fn.body with
    | some c => codeOk P P b wr c && !(fn.name == "runtime.NumGoroutine")
    | none => false
  | none => false
theorem fb_ok {P : Program} {b : FuncId → Bool} {l : List Nat} {wr : Bool} (h : l.all (okf P b wr) = true) (f : FuncId) (hf : l.contains f = true) :
    ∃ fn c, P.funcs[f]? = some fn ∧ fn.body = some c ∧ codeOk P P b wr c = true ∧ (fn.name == "runtime.NumGoroutine") = false := by
  rw [List.all_eq_true] at h
  have := h f (List.contains_iff_mem.1 hf)
  unfold okf at this
  cases h1 : P.funcs[f]? with
  | none => rw [h1] at this; cases this
  | some fn =>
    rw [h1] at this
    cases h2 : fn.body with
    | none => simp only [h2] at this; cases this
    | some c =>
      simp only [h2, Bool.and_eq_true, Bool.not_eq_true'] at this
      exact ⟨fn, c, rfl, h2, this.1, this.2⟩
set_option maxRecDepth 100000 in
theorem fb_all : fbL.all (okf Tryz.prog fb true) = true := by kernel_rfl
set_option maxRecDepth 100000 in
theorem fbP_all : fbPL.all (okf Tryz.prog fbP false) = true := by kernel_rfl

/-- the frames of which nothing is asked: they hold the caller's own data. -/
def blG (f : FuncId) : Bool := [3, 4, 5, 6, 7, 8, 10, 11].contains f
/-- the setting for the pieces of goroutine 0: nothing is frozen. -/
noncomputable def XG : Cx := ⟨Tryz.prog, Tryz.prog, fun f => fb f = true, fun c => codeOk Tryz.prog Tryz.prog fb true c = true, fun _ => False⟩
/-- the setting for a worker's reading: the blocks of Sh are frozen. -/
noncomputable def XW (Sh : Nat → Prop) : Cx := ⟨Tryz.prog, Tryz.prog, fun f => fbP f = true, fun c => codeOk Tryz.prog Tryz.prog fbP false c = true, Sh⟩
set_option maxRecDepth 100000 in
theorem no_globals : Tryz.prog.globals.size = 0 := by kernel_rfl
theorem okXG : XG.Ok fb := ⟨rfl, fun _ h => h, no_globals, fun _ _ _ => rfl, fun _ _ _ => rfl, fun f hf => by
  obtain ⟨fn, c, h1, h2, _, h4⟩ := fb_ok fb_all f hf
  exact ⟨fn, fn, h1, h1, by rw [h2]; rfl, by rw [h2]; rfl, h4, h4⟩⟩
theorem setXG : XG.Set fb true (fun _ => false) := ⟨okXG, fun _ => Iff.rfl, fun _ _ h => h, fun f hf _ => by
  obtain ⟨fn, c, h1, h2, h3, _⟩ := fb_ok fb_all f hf
  exact ⟨fn, c, h1, h1, h2, h3⟩⟩
theorem okXW (Sh : Nat → Prop) : (XW Sh).Ok fbP := ⟨rfl, fun _ h => h, no_globals, fun _ _ _ => rfl, fun _ _ _ => rfl, fun f hf => by
  obtain ⟨fn, c, h1, h2, _, h4⟩ := fb_ok fbP_all f hf
  exact ⟨fn, fn, h1, h1, by rw [h2]; rfl, by rw [h2]; rfl, h4, h4⟩⟩
theorem setXW (Sh : Nat → Prop) : (XW Sh).Set fbP false (fun _ => false) := ⟨okXW Sh, fun _ => Iff.rfl, (fun h => by cases h), fun f hf _ => by
  obtain ⟨fn, c, h1, h2, h3, _⟩ := fb_ok fbP_all f hf
  exact ⟨fn, c, h1, h1, h2, h3⟩⟩
end Go.Proofs.YtkpekiajdlolnabGreat.Ph

/-
  SCAN IN COMPANY, first text: words for a walk in the form 'WG' (each step reads blocks of F and makes blocks of its own).
-/
namespace Go.Proofs.YtkpekiajdlolnabGreat.Ph
open Go Go.Conc Go.ConcN Go.Proofs.YtkpekiajdlolnabGreat.Sim

/-- the blocks that may be read lie in the heap; those that may be written are among them. -/
structure FOk (F O : Blocks) (w : World) : Prop where
  low : ∀ b, F b → b < w.heap.size
  own : ∀ b, O b → F b
theorem FOk.ext {F O : Blocks} {w w1 : World} (h : FOk F O w) (e : Ext F w w1) : FOk F O w1 := ⟨fun b hb => Nat.lt_of_lt_of_le (h.low b hb) e.size, h.own⟩
theorem FOk.quiet {F O : Blocks} {w : World} (h : FOk F O w) (d : Nat) {es : Array Event} (he : ∀ e ∈ es, EvF F O e) : StepOK F O w F O { w with drawn := w.drawn + d } es :=
  ⟨fun _ h => h, fun _ h => h, fun _ h => .inl h, fun _ h => .inl h, h.own, fun _ _ _ => rfl, Nat.le_refl _, h.low, ⟨d, rfl⟩, rfl, rfl, rfl, he, id⟩

section
variable {P : Program} {main : Bool} {Stop : Blocks → Blocks → Goroutine → World → Prop} {F O : Blocks} {g g' : Goroutine} {w : World}
theorem WG.ctl (hr : g.status = .running) (hF : FOk F O w) (hs : ∀ w1, stepG P main g w1 = .go g' w1 #[]) (k : WG P main Stop F O g' w) : WG P main Stop F O g w :=
  WG.step hr fun w1 e => ⟨F, O, g', w1, #[], hs w1, (hF.ext e).quiet 0 (by simp), k.ext e⟩
theorem WG.quiet (hr : g.status = .running) (hF : FOk F O w) (hs : ∀ w1, Ext F w w1 → ∃ g' d es, stepG P main g w1 = .go g' { w1 with drawn := w1.drawn + d } es ∧ (∀ e ∈ es, EvF F O e) ∧ WG P main Stop F O g' { w1 with drawn := w1.drawn + d }) : WG P main Stop F O g w :=
  WG.step hr fun w1 e => by
    obtain ⟨g', d, es, h1, h2, h3⟩ := hs w1 e
    exact ⟨F, O, g', _, es, h1, (hF.ext e).quiet d h2, h3⟩
variable {b : Frame} {a : Act} {k : List Item} {cs : List Frame} {ops : Array Oper} {i : Nat} {rest : List Nat} {o : Oper}
theorem WG.value (v : Value) (hF : FOk F O w) (ho : ops[i]? = some o) (hw : Region.wanted o (yielded ops a.tmps) = true) (hk : b.kind ≠ .early)
    (hr : ∀ w1, Ext F w w1 → (execOp a.eval o).run P w1 = .ok (.value v) w1 ∧ ∀ e ∈ (execOp a.eval o).events P w1 #[], EvF F O e)
    (n : WG P main Stop F O (G (b.at (a.put o.dst v) (.inRegion ops rest :: k)) cs) w) : WG P main Stop F O (G (b.at a (.inRegion ops (i :: rest) :: k)) cs) w :=
  WG.quiet rfl hF fun w1 e => ⟨_, 0, _, stepG_value ho hw hk (hr w1 e).1, fun e' he => (hr w1 e).2 e' (mem_listed he), n.ext e⟩
theorem evF_read {F O : Blocks} {ad : Addr} (h : F ad.block) : EvF F O ⟨.cell ad, false, false⟩ := ⟨rfl, h, fun h => by cases h⟩
end
end Go.Proofs.YtkpekiajdlolnabGreat.Ph

/-
  SCAN IN COMPANY, second text: THE WORKER's REGION, in whatever order.
-/
namespace Go.Proofs.YtkpekiajdlolnabGreat.Ph
open Go Go.Conc Go.ConcN Go.Proofs.YtkpekiajdlolnabGreat.Sim

/-- the operations of the worker's region. -/
noncomputable def wOps : Array Oper := match Tryz.f54.body with
  | some (.seq _ (.region _ ops _)) => ops
  | _ => #[]

theorem cell?_heap {w w1 : World} {a : Addr} (h : w1.heap[a.block]? = w.heap[a.block]?) : w1.cell? a = w.cell? a := by unfold World.cell?; rw [h]

/-- what the worker reads. -/
structure WkIn (F : Blocks) (kb cb fb tb cl i : Nat) (dp s t : Value) (w : World) : Prop where
  k : w.cell? ⟨kb, 0, none⟩ = some (.int .i64 i)
  c : w.cell? ⟨cb, 0, none⟩ = some (.pointer (some ⟨cl, 0, none⟩))
  f : w.cell? ⟨fb, 0, none⟩ = some s
  t : w.cell? ⟨tb, 0, none⟩ = some t
  d : w.cell? ⟨cl, 1 + i * 3 + 1, none⟩ = some dp
  Fk : F kb
  Fc : F cb
  Ff : F fb
  Ft : F tb
  Fd : F cl
theorem WkIn.ext {F : Blocks} {kb cb fb tb cl i : Nat} {dp s t : Value} {w w1 : World} (h : WkIn F kb cb fb tb cl i dp s t w) (e : Ext F w w1) : WkIn F kb cb fb tb cl i dp s t w1 :=
  ⟨(cell?_heap (e.keep _ h.Fk)).trans h.k, (cell?_heap (e.keep _ h.Fc)).trans h.c, (cell?_heap (e.keep _ h.Ff)).trans h.f, (cell?_heap (e.keep _ h.Ft)).trans h.t, (cell?_heap (e.keep _ h.Fd)).trans h.d, h.Fk, h.Fc, h.Ff, h.Ft, h.Fd⟩

section
variable {kb cb fb tb cl i : Nat} {dp s t : Value}
/-- what operation j yields. -/
def wVal (cl i : Nat) (dp s t : Value) : Nat → Value
  | 0 => .int .i64 i
  | 1 => .pointer (some ⟨cl, 0, none⟩)
  | 2 => .int .i64 i
  | 3 => .pointer (some ⟨cl, 0, none⟩)
  | 4 => .pointer (some ⟨cl, 1, none⟩)
  | 5 => .pointer (some ⟨cl, 1 + i * 3, none⟩)
  | 6 => .pointer (some ⟨cl, 1 + i * 3 + 1, none⟩)
  | 7 => dp
  | 8 => s
  | _ => t
/-- the temporaries: what has been carried out has left its value. -/
structure WkT (kb cb fb tb cl i C Wg : Nat) (dp s t : Value) (listed : Array Bool) (T : Array Value) : Prop where
  size : T.size = 18
  t1 : T.getD 1 undef = .pointer (some ⟨cb, 0, none⟩)
  t2 : T.getD 2 undef = .pointer (some ⟨kb, 0, none⟩)
  t3 : T.getD 3 undef = .pointer (some ⟨fb, 0, none⟩)
  t4 : T.getD 4 undef = .pointer (some ⟨tb, 0, none⟩)
  t5 : T.getD 5 undef = .pointer (some ⟨C, 0, none⟩)
  val : ∀ j, j < 10 → listed.getD j false = true → T.getD (6 + j) undef = wVal cl i dp s t j

variable {C Wg : Nat} {listed : Array Bool} {T : Array Value} {F O : Blocks} {w : World} {ds : List Deferred}

theorem ready_after {j : Nat} (h : j ∈ Region.ready .any wOps listed) {o : Oper} (ho : wOps[j]? = some o) (q : Nat) (e : Edge) (he : o.after[q]? = some e) (hb : Region.binds .any e = true) : listed.getD e.on false = true := by
  obtain ⟨_, o', ho', hall⟩ := mem_ready.1 h
  rw [ho] at ho'
  cases ho'
  exact hall e (Array.mem_of_getElem? he) hb

theorem getD_eq {T : Array Value} {j : Nat} : (Act.mk T ds).eval (.tmp j) = T.getD j undef := rfl

set_option maxRecDepth 10000 in
/-- ONE OF THE FIRST TEN, carried out. -/
theorem wOp_val (hi : i < 4) (hT : WkT kb cb fb tb cl i C Wg dp s t listed T) (hw : WkIn F kb cb fb tb cl i dp s t w) {j : Nat} (hj : j < 10) (hr : j ∈ Region.ready .any wOps listed) :
    ∃ o, wOps[j]? = some o ∧ o.guard = none ∧ o.dst = some (6 + j) ∧ (execOp (Act.mk T ds).eval o).run Tryz.prog w = .ok (.value (wVal cl i dp s t j)) w ∧ ∀ e ∈ (execOp (Act.mk T ds).eval o).events Tryz.prog w #[], EvF F O e := by
  have e1 : (Act.mk T ds).eval (.tmp 1) = .pointer (some ⟨cb, 0, none⟩) := hT.t1
  have e2 : (Act.mk T ds).eval (.tmp 2) = .pointer (some ⟨kb, 0, none⟩) := hT.t2
  have e3 : (Act.mk T ds).eval (.tmp 3) = .pointer (some ⟨fb, 0, none⟩) := hT.t3
  have e4 : (Act.mk T ds).eval (.tmp 4) = .pointer (some ⟨tb, 0, none⟩) := hT.t4
  have dep : ∀ j', j' < 10 → listed.getD j' false = true → (Act.mk T ds).eval (.tmp (6 + j')) = wVal cl i dp s t j' := fun j' h1 h2 => hT.val j' h1 h2
  have hii : ((i : Int) < 4) := by omega
  have k1 := hw.k
  have k2 := hw.c
  have k3 := hw.f
  have k4 := hw.t
  have k5 := hw.d
  generalize (Act.mk T ds).eval = e at *
  have af := fun o (ho : wOps[j]? = some o) => ready_after (listed := listed) hr ho
  clear hr
  match j, hj with
  | 0, _ =>
    obtain ⟨o, ho, hop, hd, hg⟩ : ∃ o, wOps[0]? = some o ∧ o.op = .load 3 (.tmp 2) ∧ o.dst = some (6 + 0) ∧ o.guard = none := ⟨_, rfl, rfl, rfl, rfl⟩
    refine ⟨o, ho, hg, hd, ?_, ?_⟩
    · unfold execOp; simp [go_sem, hop, wVal, e2, k1]
    · unfold execOp; simp [go_sem, hop, e2, k1]; exact evF_read hw.Fk
  | 1, _ =>
    obtain ⟨o, ho, hop, hd, hg⟩ : ∃ o, wOps[1]? = some o ∧ o.op = .load 40 (.tmp 1) ∧ o.dst = some (6 + 1) ∧ o.guard = none := ⟨_, rfl, rfl, rfl, rfl⟩
    refine ⟨o, ho, hg, hd, ?_, ?_⟩
    · unfold execOp; simp [go_sem, hop, wVal, e1, k2]
    · unfold execOp; simp [go_sem, hop, e1, k2]; exact evF_read hw.Fc
  | 2, _ =>
    obtain ⟨o, ho, hop, hd, hg⟩ : ∃ o, wOps[2]? = some o ∧ o.op = .load 3 (.tmp 2) ∧ o.dst = some (6 + 2) ∧ o.guard = none := ⟨_, rfl, rfl, rfl, rfl⟩
    refine ⟨o, ho, hg, hd, ?_, ?_⟩
    · unfold execOp; simp [go_sem, hop, wVal, e2, k1]
    · unfold execOp; simp [go_sem, hop, e2, k1]; exact evF_read hw.Fk
  | 3, _ =>
    have d1 := dep 1 (by omega) (af _ rfl 0 ⟨1, .data⟩ rfl rfl)
    simp only [wVal, Nat.reduceAdd] at d1
    obtain ⟨o, ho, hop, hd, hg⟩ : ∃ o, wOps[3]? = some o ∧ o.op = .nilCheck (.tmp 7) ∧ o.dst = some (6 + 3) ∧ o.guard = none := ⟨_, rfl, rfl, rfl, rfl⟩
    refine ⟨o, ho, hg, hd, ?_, ?_⟩
    · unfold execOp; simp [go_sem, hop, wVal, d1]
    · unfold execOp; simp [go_sem, hop, d1]
  | 4, _ =>
    have d3 := dep 3 (by omega) (af _ rfl 0 ⟨3, .data⟩ rfl rfl)
    simp only [wVal, Nat.reduceAdd] at d3
    obtain ⟨o, ho, hop, hd, hg⟩ : ∃ o, wOps[4]? = some o ∧ o.op = .fieldAddr 83 (.tmp 9) 1 ∧ o.dst = some (6 + 4) ∧ o.guard = none := ⟨_, rfl, rfl, rfl, rfl⟩
    refine ⟨o, ho, hg, hd, ?_, ?_⟩
    · unfold execOp; simp [go_sem, hop, wVal, d3]
    · unfold execOp; simp [go_sem, hop, d3]
  | 5, _ =>
    have d4 := dep 4 (by omega) (af _ rfl 0 ⟨4, .data⟩ rfl rfl)
    simp only [wVal, Nat.reduceAdd] at d4
    have d2 := dep 2 (by omega) (af _ rfl 1 ⟨2, .data⟩ rfl rfl)
    simp only [wVal, Nat.reduceAdd] at d2
    obtain ⟨o, ho, hop, hd, hg⟩ : ∃ o, wOps[5]? = some o ∧ o.op = .indexAddr 81 (.tmp 10) (.tmp 8) ∧ o.dst = some (6 + 5) ∧ o.guard = none := ⟨_, rfl, rfl, rfl, rfl⟩
    refine ⟨o, ho, hg, hd, ?_, ?_⟩
    · unfold execOp; simp [go_sem, hop, wVal, d4, d2, hii]
    · unfold execOp; simp [go_sem, hop, d4, d2, hii, Instr.indexAt]; intro e h4; omega
  | 6, _ =>
    have d5 := dep 5 (by omega) (af _ rfl 0 ⟨5, .data⟩ rfl rfl)
    simp only [wVal, Nat.reduceAdd] at d5
    obtain ⟨o, ho, hop, hd, hg⟩ : ∃ o, wOps[6]? = some o ∧ o.op = .fieldAddr 80 (.tmp 11) 1 ∧ o.dst = some (6 + 6) ∧ o.guard = none := ⟨_, rfl, rfl, rfl, rfl⟩
    refine ⟨o, ho, hg, hd, ?_, ?_⟩
    · unfold execOp; simp [go_sem, hop, wVal, d5]
    · unfold execOp; simp [go_sem, hop, d5]
  | 7, _ =>
    have d6 := dep 6 (by omega) (af _ rfl 0 ⟨6, .data⟩ rfl rfl)
    simp only [wVal, Nat.reduceAdd] at d6
    obtain ⟨o, ho, hop, hd, hg⟩ : ∃ o, wOps[7]? = some o ∧ o.op = .load 77 (.tmp 12) ∧ o.dst = some (6 + 7) ∧ o.guard = none := ⟨_, rfl, rfl, rfl, rfl⟩
    refine ⟨o, ho, hg, hd, ?_, ?_⟩
    · unfold execOp; simp [go_sem, hop, wVal, d6, k5]
    · unfold execOp; simp [go_sem, hop, d6, k5]; exact evF_read hw.Fd
  | 8, _ =>
    obtain ⟨o, ho, hop, hd, hg⟩ : ∃ o, wOps[8]? = some o ∧ o.op = .load 9 (.tmp 3) ∧ o.dst = some (6 + 8) ∧ o.guard = none := ⟨_, rfl, rfl, rfl, rfl⟩
    refine ⟨o, ho, hg, hd, ?_, ?_⟩
    · unfold execOp; simp [go_sem, hop, wVal, e3, k3]
    · unfold execOp; simp [go_sem, hop, e3, k3]; exact evF_read hw.Ff
  | 9, _ =>
    obtain ⟨o, ho, hop, hd, hg⟩ : ∃ o, wOps[9]? = some o ∧ o.op = .load 9 (.tmp 4) ∧ o.dst = some (6 + 9) ∧ o.guard = none := ⟨_, rfl, rfl, rfl, rfl⟩
    refine ⟨o, ho, hg, hd, ?_, ?_⟩
    · unfold execOp; simp [go_sem, hop, wVal, e4, k4]
    · unfold execOp; simp [go_sem, hop, e4, k4]; exact evF_read hw.Ft
  | _ + 10, h => omega
end
end Go.Proofs.YtkpekiajdlolnabGreat.Ph

/-
  SCAN IN COMPANY, third text: THE WORKER's REGION, carried out in whatever order, up to its store.
-/
namespace Go.Proofs.YtkpekiajdlolnabGreat.Ph
open Go Go.Conc Go.ConcN Go.Proofs.YtkpekiajdlolnabGreat.Sim

theorem countP_upd (p p' : Nat → Bool) (i : Nat) (h : ∀ j, j ≠ i → p' j = p j) (hp : p i = true) (hp' : p' i = false) : ∀ l : List Nat, l.Nodup → i ∈ l → l.countP p' + 1 = l.countP p
  | [], _, hi => by cases hi
  | x :: l, hn, hi => by
    rw [List.nodup_cons] at hn
    by_cases hx : x = i
    · subst hx
      have e : l.countP p' = l.countP p := List.countP_congr fun j hj => by rw [h j (fun e => hn.1 (e ▸ hj))]
      simp [List.countP_cons, hp, hp', e]
    · have := countP_upd p p' i h hp hp' l hn.2 ((List.mem_cons.1 hi).resolve_left (fun e => hx e.symm))
      simp only [List.countP_cons, h x hx]
      omega
/-- how many are not yet carried out. -/
def cnt (listed : Array Bool) : Nat := (List.range 13).countP fun j => !listed.getD j true
theorem cnt_set {listed : Array Bool} {i : Nat} (hi : i < 13) (hs : listed.size = 13) (h : listed.getD i true = false) : cnt (listed.setIfInBounds i true) + 1 = cnt listed := by
  refine countP_upd _ _ i (fun j hj => ?_) (by simpa using h) ?_ _ List.nodup_range (List.mem_range.2 hi)
  · rw [getD_set_ne true (Ne.symm hj)]
  · have : i < listed.size := by omega
    simp [this]
set_option maxRecDepth 100000 in
theorem wOps_back : (List.range 13).all (fun n => match wOps[n]? with | some o => o.after.all fun e => decide (e.on < n) | none => false) = true := by kernel_rfl
theorem wOps_size : wOps.size = 13 := rfl
theorem ready_some {listed : Array Bool} (hs : listed.size = 13) (h : ∃ j, j < 13 ∧ listed.getD j true = false) : Region.ready .any wOps listed ≠ [] := by
  have hb := wOps_back
  rw [List.all_eq_true] at hb
  have key : ∀ n, n ≤ 13 → (∀ j, j < n → listed.getD j false = true) ∨ ∃ j, j ∈ Region.ready .any wOps listed := by
    intro n
    induction n with
    | zero => intro _; exact .inl fun j hj => absurd hj (Nat.not_lt_zero _)
    | succ n ih =>
      intro hn
      rcases ih (by omega) with h1 | h1
      · have hlt : n < listed.size := by omega
        cases hv : listed.getD n false with
        | true =>
          refine .inl fun j hj => ?_
          rcases Nat.lt_or_ge j n with h2 | h2
          · exact h1 j h2
          · obtain rfl : j = n := by omega
            exact hv
        | false =>
          refine .inr ⟨n, mem_ready.2 ⟨?_, ?_⟩⟩
          · simp [hlt] at hv ⊢; exact hv
          · have := hb n (List.mem_range.2 (by omega))
            cases ho : wOps[n]? with
            | none => rw [ho] at this; cases this
            | some o =>
              rw [ho] at this
              refine ⟨o, rfl, fun e he _ => h1 _ ?_⟩
              have := (Array.all_eq_true_iff_forall_mem.1 this) e he
              simpa using this
      · exact .inr h1
  obtain ⟨j, hj, hjf⟩ := h
  rcases key 13 (Nat.le_refl _) with h1 | ⟨j', h1⟩
  · have := h1 j hj
    have hlt : j < listed.size := by omega
    simp [hlt] at this hjf
    rw [this] at hjf; cases hjf
  · exact List.ne_nil_of_mem h1

/-- the region's list, opened by one. -/
theorem go_open {listed : Array Bool} {fuel t : Nat} (h : Region.ready .any wOps listed ≠ []) : ∃ i t', i ∈ Region.ready .any wOps listed ∧
    Region.linearise.go .any wOps (fuel + 1) t listed [] = i :: Region.linearise.go .any wOps fuel t' (listed.setIfInBounds i true) [] := by
  have hlt : t % (Region.ready .any wOps listed).length < (Region.ready .any wOps listed).length := Nat.mod_lt _ (List.length_pos_iff.2 h)
  refine ⟨(Region.ready .any wOps listed)[t % (Region.ready .any wOps listed).length], t / (Region.ready .any wOps listed).length, List.getElem_mem _, ?_⟩
  simp only [Region.linearise.go]
  change (match (Region.ready .any wOps listed)[t % (Region.ready .any wOps listed).length]? with
      | some i => Region.linearise.go .any wOps fuel (t / (Region.ready .any wOps listed).length) (listed.setIfInBounds i true) [i]
      | none => [].reverse) = _
  rw [List.getElem?_eq_getElem hlt]
  simp only []
  rw [linearise_go_acc]
  rfl

/-- WHAT STOOD STANDS: a goroutine's own walk leaves alone what is not its own. -/
theorem WG.keep {P : Program} {main : Bool} {Stop : Blocks → Blocks → Goroutine → World → Prop} {F0 : Blocks} : ∀ {F O : Blocks} {g : Goroutine} {w : World}, WG P main Stop F O g w → (∀ b, F0 b → F b ∧ ¬ O b ∧ b < w.heap.size) →
    ∀ {w0 : World}, Ext F0 w0 w → WG P main (fun F O g w1 => Stop F O g w1 ∧ Ext F0 w0 w1 ∧ ∀ b, F0 b → F b ∧ ¬ O b ∧ b < w1.heap.size) F O g w := by
  rintro F O g w ⟨r, h⟩
  induction r generalizing F O g w with
  | leaf =>
    intro h0 w0 e0
    exact WG.stop fun w1 e => ⟨h w1 e, e0.trans (e.sub fun b hb => (h0 b hb).1), fun b hb => ⟨(h0 b hb).1, (h0 b hb).2.1, Nat.lt_of_lt_of_le (h0 b hb).2.2 e.size⟩⟩
  | node f ih =>
    intro h0 w0 e0
    refine WG.step h.1 fun w1 e => ?_
    obtain ⟨F', O', g', w', es, h1, h2, h3⟩ := h.2 w1 e
    have e1 : Ext F0 w0 w1 := e0.trans (e.sub fun b hb => (h0 b hb).1)
    have hlt : ∀ b, F0 b → b < w1.heap.size := fun b hb => Nat.lt_of_lt_of_le (h0 b hb).2.2 e.size
    exact ⟨F', O', g', w', es, h1, h2, ih w1 h3 (fun b hb => ⟨h2.sub b (h0 b hb).1, fun ho => (h2.newO b ho).elim (h0 b hb).2.1 (fun hle => Nat.lt_irrefl _ (Nat.lt_of_lt_of_le (hlt b hb) hle)), Nat.lt_of_lt_of_le (hlt b hb) h2.size⟩)
      (e1.trans ⟨h2.size, fun b hb => h2.keep b (hlt b hb) (h0 b hb).2.1⟩)⟩
end Go.Proofs.YtkpekiajdlolnabGreat.Ph

/-
  SCAN IN COMPANY, fourth text: THE WORKER's REGION, the induction.
-/
namespace Go.Proofs.YtkpekiajdlolnabGreat.Ph
open Go Go.Conc Go.ConcN Go.Proofs.YtkpekiajdlolnabGreat.Sim

theorem tset_same {T : Array Value} {j : Nat} {v : Value} (h : j < T.size) : (T.setIfInBounds j v).getD j undef = v := by simp [h]
theorem tset_ne {T : Array Value} {j j' : Nat} {v : Value} (h : j ≠ j') : (T.setIfInBounds j v).getD j' undef = T.getD j' undef := by
  simp [Array.getElem?_setIfInBounds_ne h]

theorem go_nil {listed : Array Bool} {t : Nat} (h : ∀ j, j ∈ Region.ready .any wOps listed → False) : ∀ {fuel : Nat}, Region.linearise.go .any wOps fuel t listed [] = []
  | 0 => rfl
  | fuel + 1 => by
    have hr : Region.ready .any wOps listed = [] := List.eq_nil_iff_forall_not_mem.2 h
    simp only [Region.linearise.go]
    change (match (Region.ready .any wOps listed)[t % (Region.ready .any wOps listed).length]? with
        | some i => Region.linearise.go .any wOps fuel (t / (Region.ready .any wOps listed).length) (listed.setIfInBounds i true) [i]
        | none => [].reverse) = _
    rw [hr]
    rfl
/-- a callee stands at its return, with the value v. -/
def AtRet (P : Program) (R : Blocks → Value → World → Prop) (base : List Frame) (F O : Blocks) (g : Goroutine) (w : World) : Prop :=
  FOk F O w ∧ ∃ v, R F v w ∧ g.status = .running ∧ ∀ c cs, base = c :: cs → ∀ w1, stepG P false g w1 = .go (G (c.finish v) cs) w1 #[]

section
variable {kb cb fb tb cl i C Wg : Nat} {dp s t : Value} {listed : Array Bool} {T : Array Value} {ds : List Deferred}
theorem WkT.set (hT : WkT kb cb fb tb cl i C Wg dp s t listed T) {j : Nat} (v : Value) (hv : j < 10 → v = wVal cl i dp s t j) (hj : 6 + j < 18) (hl : listed.size = 13) : WkT kb cb fb tb cl i C Wg dp s t (listed.setIfInBounds j true) (T.setIfInBounds (6 + j) v) := by
  refine ⟨by simpa using hT.size, ?_, ?_, ?_, ?_, ?_, fun j' hj' h => ?_⟩
  · rw [tset_ne (by omega)]; exact hT.t1
  · rw [tset_ne (by omega)]; exact hT.t2
  · rw [tset_ne (by omega)]; exact hT.t3
  · rw [tset_ne (by omega)]; exact hT.t4
  · rw [tset_ne (by omega)]; exact hT.t5
  · by_cases e : j = j'
    · subst e
      rw [tset_same (by rw [hT.size]; omega)]
      exact hv hj'
    · rw [tset_ne (by omega)]
      rw [getD_set_ne false e] at h
      exact hT.val j' hj' h

variable {Res : Blocks → Value → World → Prop} {F0 : Blocks} {w0 : World} {b : Frame} {k : List Item} {cs : List Frame} {Stop : Blocks → Blocks → Goroutine → World → Prop}
set_option maxRecDepth 10000 in
theorem wReg (hi : i < 4) (hk : b.kind ≠ .early) (hRes : ∀ F v w w1, Res F v w → Ext F w w1 → Res F v w1)
    (hcall : ∀ (c : Frame) (w1 : World), Ext F0 w0 w1 → WG Tryz.prog false (AtRet Tryz.prog Res (c :: cs)) F0 (fun _ => False) (G (Frame.enter Tryz.prog 56 #[dp, s, t] .normal) (c :: cs)) w1)
    (hstop : ∀ F O w T v, FOk F O w → (∀ b, F0 b → F b) → Res F v w → T.getD 16 undef = v → T.getD 17 undef = .pointer (some ⟨C, i, none⟩) → T.size = 18 → Stop F O (G (b.at ⟨T, ds⟩ (.inRegion wOps [12] :: k)) cs) w) :
    ∀ (fuel t' : Nat) (listed : Array Bool) (T : Array Value) (F O : Blocks) (w : World), listed.size = 13 → cnt listed = fuel → WkT kb cb fb tb cl i C Wg dp s t listed T → WkIn F0 kb cb fb tb cl i dp s t w → FOk F O w → (∀ b, F0 b → F b) →
      listed.getD 12 true = false → (listed.getD 10 false = true → Res F (T.getD 16 undef) w) → (listed.getD 10 false = false → F = F0 ∧ O = (fun _ => False) ∧ Ext F0 w0 w) → (listed.getD 11 false = true → T.getD 17 undef = .pointer (some ⟨C, i, none⟩)) →
      WG Tryz.prog false Stop F O (G (b.at ⟨T, ds⟩ (.inRegion wOps (Region.linearise.go .any wOps fuel t' listed []) :: k)) cs) w := by
  intro fuel
  induction fuel with
  | zero =>
    intro t' listed T F O w hsz hc _ _ _ _ h12
    exfalso
    have := cnt_set (i := 12) (by omega) hsz h12
    omega
  | succ fuel ih =>
    intro t' listed T F O w hsz hc hT hin hF hsub h12 h10 h10' h11
    obtain ⟨j, t2, hj, e⟩ := go_open (fuel := fuel) (t := t') (ready_some hsz ⟨12, by omega, h12⟩)
    rw [e]
    have hjl : listed.getD j true = false := (mem_ready.1 hj).1
    have hj13 : j < 13 := by
      obtain ⟨_, o, ho, _⟩ := mem_ready.1 hj
      have := (Array.getElem?_eq_some_iff.1 ho).1
      rwa [wOps_size] at this
    have hcs := cnt_set hj13 hsz hjl
    have hsz' : (listed.setIfInBounds j true).size = 13 := by simpa using hsz
    have hne : ∀ {n : Nat} {d : Bool}, n ≠ j → (listed.setIfInBounds j true).getD n d = listed.getD n d := fun h => getD_set_ne _ (Ne.symm h)
    rcases (by omega : j < 10 ∨ j = 10 ∨ j = 11 ∨ j = 12) with h | rfl | rfl | rfl
    · -- one of the first ten
      obtain ⟨o, ho, hg, hd, hr, hev⟩ := wOp_val (F := F) (O := O) (ds := ds) hi hT (w := w) ⟨hin.k, hin.c, hin.f, hin.t, hin.d, hsub _ hin.Fk, hsub _ hin.Fc, hsub _ hin.Ff, hsub _ hin.Ft, hsub _ hin.Fd⟩ h hj
      have hwant : Region.wanted o (yielded wOps (Act.mk T ds).tmps) = true := by unfold Region.wanted; rw [hg]
      refine WG.value (wVal cl i dp s t j) hF ho hwant hk (fun w1 e1 => ?_) ?_
      · obtain ⟨o', ho', _, _, hr', hev'⟩ := wOp_val (F := F) (O := O) (ds := ds) hi hT (w := w1) (WkIn.ext ⟨hin.k, hin.c, hin.f, hin.t, hin.d, hsub _ hin.Fk, hsub _ hin.Fc, hsub _ hin.Ff, hsub _ hin.Ft, hsub _ hin.Fd⟩ e1) h hj
        rw [ho] at ho'
        cases ho'
        exact ⟨hr', hev'⟩
      · rw [hd]
        refine ih t2 _ _ F O w hsz' (by omega) (hT.set _ (fun _ => rfl) (by omega) hsz) hin hF hsub (by rw [hne (by omega)]; exact h12) (fun h1 => ?_) (fun h1 => ?_) (fun h1 => ?_)
        · rw [hne (by omega)] at h1
          show Res F ((T.setIfInBounds (6 + j) _).getD 16 undef) w
          rw [tset_ne (by omega)]; exact h10 h1
        · rw [hne (by omega)] at h1; exact h10' h1
        · rw [hne (by omega)] at h1
          show (T.setIfInBounds (6 + j) _).getD 17 undef = _
          rw [tset_ne (by omega)]; exact h11 h1
    · -- the call
      have h10f : listed.getD 10 false = false := by
        have hlt : 10 < listed.size := by omega
        simp [hlt] at hjl ⊢; exact hjl
      obtain ⟨rfl, rfl, e0⟩ := h10' h10f
      obtain ⟨o, ho, hop, hd, hg⟩ : ∃ o, wOps[10]? = some o ∧ o.op = .call { callee := .value (.func 56), args := #[.tmp 13, .tmp 14, .tmp 15], argTypes := #[77, 9, 9] } ∧ o.dst = some 16 ∧ o.guard = none := ⟨_, rfl, rfl, rfl, rfl⟩
      have a7 := hT.val 7 (by omega) (ready_after hj (o := _) rfl 0 ⟨7, .data⟩ rfl rfl)
      have a8 := hT.val 8 (by omega) (ready_after hj (o := _) rfl 1 ⟨8, .data⟩ rfl rfl)
      have a9 := hT.val 9 (by omega) (ready_after hj (o := _) rfl 2 ⟨9, .data⟩ rfl rfl)
      have hwant : Region.wanted o (yielded wOps (Act.mk T ds).tmps) = true := by unfold Region.wanted; rw [hg]
      have ev : ∀ w1, (execOp (Act.mk T ds).eval o).run Tryz.prog w1 = .ok (.enter 56 #[dp, s, t]) w1 ∧ (execOp (Act.mk T ds).eval o).events Tryz.prog w1 #[] = #[] := fun w1 => by
        have b7 : (Act.mk T ds).eval (.tmp 13) = dp := a7
        have b8 : (Act.mk T ds).eval (.tmp 14) = s := a8
        have b9 : (Act.mk T ds).eval (.tmp 15) = t := a9
        generalize he : (Act.mk T ds).eval = e at *
        have bf : e (.func 56) = .func (.func 56) #[] #[] := by rw [← he]; rfl
        unfold execOp
        constructor
        · simp [go_sem, hop, b7, b8, b9, bf]
        · simp [go_sem, hop, b7, b8, b9, bf]
          simp [callFunc, go_sem, Tryz.func56, Tryz.f56]
      have hlow : ∀ x, F x → F x ∧ ¬ (fun _ => False : Blocks) x ∧ x < w.heap.size := fun x hx => ⟨hx, fun h => h, hF.low x hx⟩
      refine WG.quiet rfl hF fun w1 e1 => ⟨_, 0, _, stepG_enter ho hwant hk (ev w1).1, fun e' he => ?_, ?_⟩
      · have := mem_listed he
        rw [(ev w1).2] at this
        simp at this
      refine WG.then (WG.keep (F0 := F) (hcall _ w1 (e0.trans e1)) (fun x hx => ⟨hx, fun h => h, Nat.lt_of_lt_of_le (hF.low x hx) e1.size⟩) (Ext.refl F w1)) ?_
      rintro F1 O1 g1 w2 ⟨⟨hF1, v, hv, hrun, hfin⟩, e2, hsub1⟩
      have hin2 := hin.ext (e1.trans e2)
      refine WG.ctl hrun hF1 (hfin _ _ rfl) ?_
      rw [Frame.finish_at, ho]
      show WG _ _ _ _ _ (G (b.at ((Act.mk T ds).put o.dst v) _) cs) w2
      rw [hd]
      refine ih t2 _ _ F1 O1 w2 hsz' (by omega) (hT.set (j := 10) v (fun h => by omega) (by omega) hsz) hin2 hF1 (fun x hx => (hsub1 x hx).1) (by rw [hne (by omega)]; exact h12) (fun _ => ?_) (fun h1 => ?_) (fun h1 => ?_)
      · show Res F1 ((T.setIfInBounds (6 + 10) v).getD 16 undef) w2
        rw [tset_same (by rw [hT.size]; omega)]
        exact hv
      · have hlt : 10 < listed.size := by omega
        simp [hlt] at h1
      · rw [hne (by omega)] at h1
        show (T.setIfInBounds (6 + 10) v).getD 17 undef = _
        rw [tset_ne (by omega)]; exact h11 h1
    · -- the index
      have a0 := hT.val 0 (by omega) (ready_after hj (o := _) rfl 0 ⟨0, .data⟩ rfl rfl)
      have a10 := ready_after hj (o := _) rfl 11 ⟨10, .phase⟩ rfl rfl
      obtain ⟨o, ho, hop, hd, hg⟩ : ∃ o, wOps[11]? = some o ∧ o.op = .indexAddr 112 (.tmp 5) (.tmp 6) ∧ o.dst = some 17 ∧ o.guard = none := ⟨_, rfl, rfl, rfl, rfl⟩
      have hwant : Region.wanted o (yielded wOps (Act.mk T ds).tmps) = true := by unfold Region.wanted; rw [hg]
      have hii : ((i : Int) < 4) := by omega
      refine WG.value (.pointer (some ⟨C, i, none⟩)) hF ho hwant hk (fun w1 e1 => ?_) ?_
      · have b5 : (Act.mk T ds).eval (.tmp 5) = .pointer (some ⟨C, 0, none⟩) := hT.t5
        have b6 : (Act.mk T ds).eval (.tmp 6) = .int .i64 i := a0
        generalize he : (Act.mk T ds).eval = e at *
        unfold execOp
        constructor
        · simp [go_sem, hop, b5, b6, hii]
        · simp [go_sem, hop, b5, b6, hii, Instr.indexAt]
          intro e h4; omega
      · rw [hd]
        refine ih t2 _ _ F O w hsz' (by omega) (hT.set (j := 11) _ (fun h => by omega) (by omega) hsz) hin hF hsub (by rw [hne (by omega)]; exact h12) (fun h1 => ?_) (fun h1 => ?_) (fun _ => ?_)
        · show Res F ((T.setIfInBounds (6 + 11) _).getD 16 undef) w
          rw [tset_ne (by omega)]; exact h10 a10
        · rw [hne (by omega)] at h1
          rw [a10] at h1; cases h1
        · show (T.setIfInBounds (6 + 11) _).getD 17 undef = _
          rw [tset_same (by rw [hT.size]; omega)]
    · -- the store
      have a10 := ready_after hj (o := _) rfl 1 ⟨10, .data⟩ rfl rfl
      have a11 := ready_after hj (o := _) rfl 0 ⟨11, .data⟩ rfl rfl
      have hall : ∀ j, j < 12 → listed.getD j false = true := fun j hj12 => by
        have ra := fun q e => ready_after hj (o := _) rfl q e
        match j, hj12 with
        | 0, _ => exact ra 3 ⟨0, .phase⟩ rfl rfl
        | 1, _ => exact ra 4 ⟨1, .phase⟩ rfl rfl
        | 2, _ => exact ra 5 ⟨2, .phase⟩ rfl rfl
        | 3, _ => exact ra 6 ⟨3, .phase⟩ rfl rfl
        | 4, _ => exact ra 7 ⟨4, .phase⟩ rfl rfl
        | 5, _ => exact ra 8 ⟨5, .phase⟩ rfl rfl
        | 6, _ => exact ra 9 ⟨6, .phase⟩ rfl rfl
        | 7, _ => exact ra 10 ⟨7, .phase⟩ rfl rfl
        | 8, _ => exact ra 11 ⟨8, .phase⟩ rfl rfl
        | 9, _ => exact ra 12 ⟨9, .phase⟩ rfl rfl
        | 10, _ => exact a10
        | 11, _ => exact a11
      have hnil : Region.linearise.go .any wOps fuel t2 (listed.setIfInBounds 12 true) [] = [] := go_nil fun j hj' => by
        have h1 := (mem_ready.1 hj').1
        have hj13' : j < 13 := by
          obtain ⟨_, o, ho, _⟩ := mem_ready.1 hj'
          have := (Array.getElem?_eq_some_iff.1 ho).1
          rwa [wOps_size] at this
        by_cases e12 : j = 12
        · subst e12
          have hlt : 12 < listed.size := by omega
          simp [hlt] at h1
        · rw [getD_set_ne true (Ne.symm e12)] at h1
          have h2 := hall j (by omega)
          have hlt : j < listed.size := by omega
          simp [hlt] at h1 h2
          rw [h1] at h2; cases h2
      rw [hnil]
      exact WG.stop fun w1 e1 => hstop F O w1 T _ (hF.ext e1) hsub (hRes _ _ _ _ (h10 a10) e1) rfl (h11 a11) hT.size
end
end Go.Proofs.YtkpekiajdlolnabGreat.Ph

/-
  SCAN IN COMPANY, fifth text: THE WORKER's WHOLE SCRIPT.
-/
namespace Go.Proofs.YtkpekiajdlolnabGreat.Ph
open Go.Conc Go.ConcN Go.RowKit Go.Conc.Lib Go.ConcR.Gen Go.ConcN.Gen Go Go.Proofs.YtkpekiajdlolnabGreat.Sim
open Go.ConcR (KK wgBlock WgAt stA smA rd wr mk Payload Aside2 DC0 ofEvent_cell)

instance : Payload := ⟨112⟩
abbrev fW : FuncId := 54
def bW : Frame := baseD fW
noncomputable def botW : Frame := { (default : Frame) with fn := Tryz.prog.funcs.size, defers := [], mode := .panicking [goexitEntry] }
noncomputable def bodyW : Code := Tryz.f54.body.getD .skip
theorem loudW : (Tryz.prog.funcs[bW.fn]?).any (·.norace) = false := by kernel_rfl
/-- The call that a go statement holds: the group, &c, &k, &from, &to, &found. -/
def callW (Wg cb kb fb tb C : Nat) : Deferred := { target := .fn (.func fW) #[.pointer (some ⟨Wg, 0, none⟩), .pointer (some ⟨cb, 0, none⟩), .pointer (some ⟨kb, 0, none⟩), .pointer (some ⟨fb, 0, none⟩), .pointer (some ⟨tb, 0, none⟩), .pointer (some ⟨C, 0, none⟩)], args := #[] }
theorem quitsW (T : Array Value) : QuitsD Tryz.prog 2 0 (G { bW.at ⟨T, []⟩ [] with mode := .returning } [botW]) := by
  refine QuitsD.ctl (g' := G botW []) rfl (fun w => ?_) ?_
  · simp [G, stepG, unwind, doReturn, results, Frame.at, bW, baseD, botW, Tryz.func54, Tryz.f54, seen, GStep.after, goexitEntry]
  refine QuitsD.ctl (g' := { G botW [] with status := .finished }) rfl (fun w => ?_) ⟨rfl, rfl⟩
  simp [G, stepG, unwind, botW, goexitEntry, Frame.catches]
  rfl
theorem bornW_step (Wg cb kb fb tb C : Nat) (w : World) : stepG Tryz.prog false (born Tryz.prog (callW Wg cb kb fb tb C)) w =
    .go (G (bW.at ⟨#[.pointer (some ⟨Wg, 0, none⟩), .pointer (some ⟨cb, 0, none⟩), .pointer (some ⟨kb, 0, none⟩), .pointer (some ⟨fb, 0, none⟩), .pointer (some ⟨tb, 0, none⟩), .pointer (some ⟨C, 0, none⟩), undef, undef, undef, undef, undef, undef, undef, undef, undef, undef, undef, undef], []⟩ [.code bodyW]) [botW]) w #[] := by
  simp [born, callW, stepG, unwind, callDeferred, invoke, callFunc, Tryz.func54, Tryz.f54, seen, GStep.after, G, Frame.enter, Frame.at, bW, baseD, botW, bodyW]

section
variable {main : Bool} {b : Frame} {a : Act} {kk : List Item} {cs : List Frame} {w : World} {ops : Array Oper} {i : Nat} {rest : List Nat} {o : Oper}
/-- A PLAIN STORE OF A LIST, AS ONE STEP. -/
theorem stepG_storeL {x y : Operand} (ho : ops[i]? = some o) (hw : Region.wanted o (yielded ops a.tmps) = true) (hk : b.kind ≠ .early) (hop : o.op = .store 47 x y)
    {ad : Addr} {sa : Option Addr} {n c : Nat} {u : Value} (hx : a.eval x = .pointer (some ad)) (hy : a.eval y = .slice sa n c) (hc : w.cell? ad = some u) (hz : w.frozen? ad = false) (hq : (Tryz.prog.funcs[b.fn]?).any (·.norace) = false) :
    stepG Tryz.prog main (G (b.at a (.inRegion ops (i :: rest) :: kk)) cs) w = .go (G (b.at (a.put o.dst undef) (.inRegion ops rest :: kk)) cs) (w.setCell ad (.slice sa n c)) #[⟨.cell ad, true, false⟩] := by
  have hr : (execOp a.eval o).run Tryz.prog w = .ok .skip (w.setCell ad (.slice sa n c)) := by
    unfold execOp
    simp only [hop, hx, hy]
    simp [go_sem, stored, hc, hz]
  have he : (execOp a.eval o).events Tryz.prog w #[] = #[⟨.cell ad, true, false⟩] := by
    unfold execOp
    simp only [hop, hx, hy]
    simp [go_sem, storedEv, hc, hz]
  rw [stepG_none ho hw hk hr]
  unfold listed
  rw [he, seen_eq hq (by simp)]
end

section
variable {C n i : Nat} {w : World}
theorem pay_cell (hp : PayAt C n w) (hj : i < n) : ∃ u, w.cell? ⟨C, i, none⟩ = some u ∧ w.frozen? ⟨C, i, none⟩ = false := by
  obtain ⟨arr, h1, h2⟩ := hp
  exact ⟨arr[i]'(by omega), by simp [World.cell?, h1, h2, hj], by simp [World.frozen?, h1]⟩
end
theorem nm_doneW : (Tryz.f55.name == "runtime.NumGoroutine") = false := by kernel_rfl

section
variable {i C Wg : Nat}
set_option maxRecDepth 100000 in
set_option maxHeartbeats 400000 in
/-- behind the store: the region's end, the literal's end, and Done. -/
theorem wTail {w : World} (T : Array Value) (v : Value) (hK : WgLive link.tWg Wg w ∧ Has C i v w) :
    Goes Tryz.prog false (RW link.tWg Wg C 4 0 i) (DWs Wg none2 none2 C 4 (i + 1)) (AtR0 Tryz.prog link.tWg Wg C 4 0 (i + 1) v) 26 (G (bW.at ⟨T, [dcall 55 #[.pointer (some ⟨Wg, 0, none⟩)]]⟩ (.inRegion wOps [] :: [])) [botW]) w := by
  have hA := @doneN _ link Tryz.prog wgLib none2 none2 Wg C 4 0 (i + 1) v
  u_c stepG_region_end kn_rely hK
  u_c stepG_end kn_rely hK
  u_in kn_rely hK
  rw [stepG_unwind_enter rfl Tryz.func55 nm_doneW rfl]
  simp only [goes_go]
  refine ⟨by u_nil, ?_⟩
  walk_nrmf Tryz.f55
  simp only [body_done, doneFn, Option.getD_some] at hA
  exact hA rfl (quitsW T) _ hK

/-- at the store. -/
theorem wStore {Res : Nat → Blocks → Value → World → Prop} {F O : Blocks} {w : World} {T : Array Value} {v : Value} (hi : i < 4) (hCW : C ≠ Wg) (hR : Res i F v w) (hsl : ∃ sa n c, v = .slice sa n c) (h16 : T.getD 16 undef = v) (h17 : T.getD 17 undef = .pointer (some ⟨C, i, none⟩)) :
    AtStore Tryz.prog link.tWg Wg C 4 Res i F O (G (bW.at ⟨T, [dcall 55 #[.pointer (some ⟨Wg, 0, none⟩)]]⟩ (.inRegion wOps [12] :: [])) [botW]) w := by
  refine ⟨rfl, v, hR, fun w1 e1 hp hl => ?_⟩
  obtain ⟨u, hu1, hu2⟩ := pay_cell (i := i) hp hi
  obtain ⟨sa, n, c, rfl⟩ := hsl
  obtain ⟨o, ho, hop, hd, hg⟩ : ∃ o, wOps[12]? = some o ∧ o.op = .store 47 (.tmp 17) (.tmp 16) ∧ o.dst = none ∧ o.guard = none := ⟨_, rfl, rfl, rfl, rfl⟩
  have hwant : Region.wanted o (yielded wOps (Act.mk T [dcall 55 #[.pointer (some ⟨Wg, 0, none⟩)]]).tmps) = true := by unfold Region.wanted; rw [hg]
  have hst := stepG_storeL (main := false) (b := bW) (kk := []) (cs := [botW]) (rest := []) ho hwant (by decide) hop (h17 : (Act.mk T _).eval (.tmp 17) = _) (h16 : (Act.mk T _).eval (.tmp 16) = _) hu1 hu2 loudW
  have hK := And.intro (let ⟨st, sm, h⟩ := hl; (⟨st, sm, h.of_block ((aside_setCell _ ⟨C, i, none⟩ (.slice sa n c)).block Wg (Ne.symm hCW))⟩ : WgLive link.tWg Wg (w1.setCell ⟨C, i, none⟩ (.slice sa n c)))) (has_set (i := i) hp hi (.slice sa n c))
  rw [hd] at hst
  exact ⟨_, hst, 26, wTail T _ hK⟩

set_option maxRecDepth 100000 in
theorem wOps_departs : Region.departs wOps = false := by kernel_rfl
theorem wOps_order {mixed : Bool} {t : Nat} : Region.schedule mixed wOps t = Region.linearise.go .any wOps 13 t (Array.replicate 13 false) [] := by
  unfold Region.schedule
  rw [wOps_departs]
  simp only [Bool.not_false, Bool.or_true, if_true]
  unfold Region.linearise
  rw [wOps_size]
set_option maxRecDepth 100000 in
/-- ████ THE WORKER's WHOLE SCRIPT, from its birth. ████ -/
theorem wScript {kb cb fb tb cl : Nat} {dp s t : Value} {Res : Nat → Blocks → Value → World → Prop} {F0 : Blocks} {w : World} (hi : i < 4) (hCW : C ≠ Wg) (hRes : ∀ F v w w1, Res i F v w → Ext F w w1 → Res i F v w1) (hsl : ∀ F v w, Res i F v w → ∃ sa n c, v = .slice sa n c)
    (hin : WkIn F0 kb cb fb tb cl i dp s t w) (hF : FOk F0 (fun _ => False) w)
    (hcall : ∀ (c : Frame) (cs : List Frame) (w1 : World), Ext F0 w w1 → WG Tryz.prog false (AtRet Tryz.prog (Res i) (c :: cs)) F0 (fun _ => False) (G (Frame.enter Tryz.prog 56 #[dp, s, t] .normal) (c :: cs)) w1) :
    Script Tryz.prog link.tWg Wg C 4 Res i F0 (born Tryz.prog (callW Wg cb kb fb tb C)) w := by
  refine ⟨F0, fun _ h => h, ?_⟩
  refine WG.ctl rfl hF (bornW_step Wg cb kb fb tb C) ?_
  have hb : bodyW = .seq (.region 0 #[{ dst := none, op := .defer { callee := .value (.func 55), args := #[.tmp 0], argTypes := #[122] }, type := 0, pos := "cluster.go:120", after := #[], guard := none }] false) (.region 1 wOps true) := rfl
  rw [hb]
  refine WG.ctl rfl hF (fun w1 => stepG_seq) ?_
  refine WG.ctl rfl hF (fun w1 => stepG_region) ?_
  refine WG.ctl rfl hF (fun w1 => stepG_defer rfl rfl (by decide) rfl) ?_
  walk_nrm
  refine WG.ctl rfl hF (fun w1 => stepG_region_end) ?_
  refine WG.quiet rfl hF fun w1 e1 => ⟨_, 1, #[], stepG_region_draw, by simp, ?_⟩
  rw [wOps_order]
  show WG _ _ _ _ _ (G (bW.at ⟨#[.pointer (some ⟨Wg, 0, none⟩), .pointer (some ⟨cb, 0, none⟩), .pointer (some ⟨kb, 0, none⟩), .pointer (some ⟨fb, 0, none⟩), .pointer (some ⟨tb, 0, none⟩), .pointer (some ⟨C, 0, none⟩), undef, undef, undef, undef, undef, undef, undef, undef, undef, undef, undef, undef], [dcall 55 #[.pointer (some ⟨Wg, 0, none⟩)]]⟩ _) _) _
  refine wReg (Stop := AtStore Tryz.prog link.tWg Wg C 4 Res i) (ds := [dcall 55 #[.pointer (some ⟨Wg, 0, none⟩)]]) (b := bW) (k := []) (cs := [botW]) (Res := Res i) (F0 := F0) (w0 := w) (C := C) (Wg := Wg) hi (by decide) hRes (fun c w1 e => hcall c [botW] w1 e)
    (fun F O w T v _ _ hR h16 h17 _ => wStore hi hCW hR (hsl _ _ _ hR) h16 h17) 13 _ (Array.replicate 13 false) _ F0 (fun _ => False) _ rfl rfl ?_ (hin.ext ?_) (hF.ext ?_) (fun _ h => h) rfl ?_ ?_ ?_
  · refine ⟨rfl, rfl, rfl, rfl, rfl, rfl, fun j hj h => ?_⟩
    have : (Array.replicate 13 false).getD j false = false := by
      have hj13 : j < 13 := by omega
      simp [hj13]
    rw [this] at h; cases h
  · exact ⟨e1.size, e1.keep⟩
  · exact ⟨e1.size, e1.keep⟩
  · intro h; cases h
  · exact fun _ => ⟨rfl, rfl, ⟨e1.size, e1.keep⟩⟩
  · intro h; cases h
end
end Go.Proofs.YtkpekiajdlolnabGreat.Ph

/-
  SCAN IN COMPANY, sixth text: THE CALL OF Pairs IN COMPANY, out of its lone contract.
-/
namespace Go.Proofs.YtkpekiajdlolnabGreat.Sim
open Go Go.Conc
/-- where a call of f ends. -/
def DoneF (P : Program) (f : FuncId) (R : Value → World → Prop) (fr : Frame) (cs : List Frame) (w : World) : Prop := cs = [c0] ∧ fr.fn = f ∧ ∃ v, fr.leaving P w (.returned v) ∧ R v w
section
variable {X : Cx} {Fb : FuncId → Bool} {wr : Bool}
theorem must_of_calls_fn (S : X.Set Fb wr (fun _ => false)) {f : FuncId} {args : Array Value} {w : World} (hinv : Inv X Fb wr (Frame.enter X.P f args .normal) [c0] w) {R : Value → World → Prop} (hR : ∀ v w τ, R v (re w τ) → R v w)
    (hc : ∀ τ, Agree w τ → Calls X.P f args (re w τ) fun | .returned v, w' => R v w' | _, _ => False) : LMust X.P (DoneF X.P f R) (Frame.enter X.P f args .normal) [c0] w := by
  refine bar S (fun fr cs w h => ?_) (fun fr cs w τ hi ha h => ?_) hinv (fun τ ha => ?_)
  · obtain ⟨-, -, v, h, -⟩ := h
    intro ch e
    rw [h.1] at e; cases e
  · obtain ⟨e, hfn0, v, ⟨h1, h2, h3, fn, h4, h5⟩, hr⟩ := h
    refine ⟨e, hfn0, v, ⟨h1, h2, h3, fn, h4, ?_⟩, hR _ _ _ hr⟩
    obtain ⟨ρ, fr', up, up', w', e0, hf, -, hw, -, -⟩ := hi.re τ
    rcases hrun : (results fn fr.tmps).runT X.P (re w τ) #[] with ⟨r0, es0⟩
    have h5' : r0 = .ok v (re w τ) := by rw [← h5, ← Sem.runT_fst X.P _ _ #[], hrun]
    subst h5'
    obtain ⟨d1, d2, d3⟩ := (SS.results (f := fn) S.ok hf.tmps).loc hw hrun
    have := d3 w.tape (fun i q hi => (ha i q hi).symm)
    rw [← Sem.runT_fst X.P _ _ #[]]
    have e : re (re w τ) w.tape = w := rfl
    rw [e] at this
    rw [this]
    rfl
  · obtain ⟨e, w', fr, hRe, hcomes, hfn, hleave⟩ := hc τ ha [c0]
    cases e with
    | panicked chain => exact hRe.elim
    | outgrown => exact hRe.elim
    | returned v =>
      obtain ⟨n, hn⟩ := hcomes
      exact conv S (Q := DoneF X.P f R) ⟨rfl, hfn, v, hleave, hRe⟩ n (.inl (hinv.re τ)) hn
end
end Go.Proofs.YtkpekiajdlolnabGreat.Sim

namespace Go.Proofs.YtkpekiajdlolnabGreat.Ph
open Go Go.Conc Go.ConcN Go.Proofs.YtkpekiajdlolnabGreat.Sim

/-- a walk with more blocks to be kept. -/
theorem WG.frame {P : Program} {main : Bool} {Stop : Blocks → Blocks → Goroutine → World → Prop} {H : Blocks} : ∀ {F O : Blocks} {g : Goroutine} {w : World}, WG P main Stop F O g w → (∀ b, H b → b < w.heap.size) →
    WG P main (fun F' O g w => ∃ F, Stop F O g w ∧ (∀ b, F' b ↔ F b ∨ H b) ∧ ∀ b, H b → b < w.heap.size) (fun b => F b ∨ H b) O g w := by
  rintro F O g w ⟨r, h⟩
  induction r generalizing F O g w with
  | leaf => exact fun hH => WG.stop fun w1 e => ⟨F, h w1 (e.sub fun b hb => .inl hb), fun _ => Iff.rfl, fun b hb => Nat.lt_of_lt_of_le (hH b hb) e.size⟩
  | node f ih =>
    intro hH
    refine WG.step h.1 fun w1 e => ?_
    obtain ⟨F', O', g', w', es, h1, h2, h3⟩ := h.2 w1 (e.sub fun b hb => .inl hb)
    have hH1 : ∀ b, H b → b < w1.heap.size := fun b hb => Nat.lt_of_lt_of_le (hH b hb) e.size
    refine ⟨fun b => F' b ∨ H b, O', g', w', es, h1, ⟨fun b hb => hb.imp (h2.sub b) id, h2.subO, fun b hb => ?_, h2.newO, fun b hb => .inl (h2.own b hb), h2.keep, h2.size, fun b hb => hb.elim (h2.low b) fun x => Nat.lt_of_lt_of_le (hH1 b x) h2.size, h2.drawn, h2.tape, h2.os, h2.output, fun x hx => ?_, h2.nb⟩, ih w1 h3 fun b hb => Nat.lt_of_lt_of_le (hH1 b hb) h2.size⟩
    · rcases hb with hb | hb
      · exact (h2.new b hb).imp .inl id
      · exact .inl (.inr hb)
    · have := h2.ev x hx
      obtain ⟨loc, wt, sy⟩ := x
      cases loc with
      | cell a => exact ⟨this.1, .inl this.2.1, this.2.2⟩
      | obj r => exact ⟨this.1, .inl this.2.1, this.2.2⟩
      | mark m => cases m <;> exact this
      | _ => exact this

theorem res_pairs {w : World} {T : Array Value} : (results Tryz.f56 T).runT Tryz.prog w #[] = (.ok (T.getD 6 undef) w, #[]) := by
  have e : Tryz.f56.results = #[.tmp 6] := rfl
  simp [results, e, go_sem]
theorem res_pairs_run {w w' : World} {T : Array Value} {v : Value} (h : (results Tryz.f56 T).run Tryz.prog w = .ok v w') : v = T.getD 6 undef := by
  rw [← Sem.runT_fst _ _ _ #[], res_pairs] at h
  injection h with h _
  exact h.symm
theorem fn_pairs {fn : Func} {f : FuncId} (h : Tryz.prog.funcs[f]? = some fn) (e : f = 56) : fn = Tryz.f56 := by
  rw [e, Tryz.func56] at h
  exact (Option.some.inj h).symm

/-- the blocks that Pairs reads: its Data's, and the map's. -/
def dm (db mb : Nat) : Nat → Prop := fun b => b = db ∨ b = mb
def rdm (db mb : Nat) : Rel := fun a b => a = b ∧ dm db mb a
/-- Pairs' lone world: the two blocks frozen. -/
def iced (db mb : Nat) (m : Value) (w : World) : World := { w with heap := w.heap.mapIdx fun b o => if b = db then .cells #[m] 142 (0, 1) else if b = mb then o else .cells #[] 0 }

section
variable {db mb : Nat} {es : Array MapEntry} {clock : Nat} {s t : ByteArray} {F0 : Blocks} {w1 : World} {R : Value → World → Prop} {Res : Blocks → Value → World → Prop}
theorem pairs_wg (hF : FOk F0 (fun _ => False) w1) (hdb : F0 db) (hmb : F0 mb) (hne : db ≠ mb) (hd : w1.heap[db]? = some (.cells #[.map (some mb)] 142 (0, 0))) (hm : w1.heap[mb]? = some (.map es clock)) (hes : ∀ (F : FuncId → Prop) ρ, EsR F ρ es.toList es.toList)
    (hcon : ∀ wl, wl.heap[db]? = some (.cells #[.map (some mb)] 142 (0, 1)) → wl.heap[mb]? = some (.map es clock) → Calls Tryz.prog 56 #[.pointer (some ⟨db, 0, none⟩), .string s, .string t] wl fun | .returned v, w' => R v w' | _, _ => False)
    (hR : ∀ v w τ, R v (re w τ) → R v w)
    (htr : ∀ ρ v v' w w', R v w → VR (fun f => fbP f = true) ρ v v' → WN (XW (dm db mb)) ρ w w' → Res (rng ρ) v' w') (hmono : ∀ F F' v w, Res F v w → (∀ b, F b → F' b) → Res F' v w) (c : Frame) (cs : List Frame) :
    WG Tryz.prog false (AtRet Tryz.prog Res (c :: cs)) F0 (fun _ => False) (G (Frame.enter Tryz.prog 56 #[.pointer (some ⟨db, 0, none⟩), .string s, .string t] .normal) (c :: cs)) w1 := by
  have S := setXW (dm db mb)
  have hlt : db < w1.heap.size := (Array.getElem?_eq_some_iff.1 hd).1
  have hltm : mb < w1.heap.size := (Array.getElem?_eq_some_iff.1 hm).1
  have i1 : (iced db mb (.map (some mb)) w1).heap[db]? = some (.cells #[.map (some mb)] 142 (0, 1)) := by
    simp only [iced, Array.getElem?_mapIdx, hd, Option.map_some, if_true]
  have i2 : (iced db mb (.map (some mb)) w1).heap[mb]? = some (.map es clock) := by
    simp only [iced, Array.getElem?_mapIdx, hm, Option.map_some, if_neg (Ne.symm hne), if_true]
  have hwr : WR (XW (dm db mb)) (rdm db mb) (iced db mb (.map (some mb)) w1) w1 := by
    refine ⟨fun h h' => h.1.symm.trans h'.1, fun h h' => h.1.trans h'.1.symm, fun {a b} hab => ?_, fun _ _ => rfl, fun a ha => ?_⟩
    · obtain ⟨rfl, h | h⟩ := hab
      · subst h
        exact ⟨_, _, i1, hd, .cells (.cons (.map ⟨rfl, .inr rfl⟩) .nil) (.inr rfl)⟩
      · subst h
        exact ⟨_, _, i2, hm, .map (hes _ _)⟩
    · rcases ha with h | h
      · subst h; exact .inl ⟨_, _, 1, i1, by simp⟩
      · subst h; exact .inr ⟨_, _, i2⟩
  have hnl : NB (iced db mb (.map (some mb)) w1) := trivial
  have hargs : VsR (fun f => fbP f = true) (rdm db mb) [.pointer (some ⟨db, 0, none⟩), .string s, .string t] [.pointer (some ⟨db, 0, none⟩), .string s, .string t] := .cons (.ptr ⟨rfl, .inl rfl⟩) (.cons (.string s) (.cons (.string t) .nil))
  have hFb : (XW (dm db mb)).F 56 := by show fbP _ = true; decide
  have hfr : FR (XW (dm db mb)) fbP false (rdm db mb) (Frame.enter Tryz.prog 56 #[.pointer (some ⟨db, 0, none⟩), .string s, .string t] .normal) (Frame.enter Tryz.prog 56 #[.pointer (some ⟨db, 0, none⟩), .string s, .string t] .normal) := enter_FR S hFb rfl hargs
  have hB : Bot [Frame.enter Tryz.prog 56 #[.pointer (some ⟨db, 0, none⟩), .string s, .string t] .normal] := by
    intro f hf
    simp at hf
    subst hf
    rfl
  have hinv : Inv (XW (dm db mb)) fbP false (Frame.enter Tryz.prog 56 #[.pointer (some ⟨db, 0, none⟩), .string s, .string t] .normal) [c0] (iced db mb (.map (some mb)) w1) := ⟨rdm db mb, _, [], [], w1, rfl, hfr, .nil, hwr, hnl, hB⟩
  have hmust := must_of_calls_fn S hinv hR fun τ _ => hcon (re (iced db mb (.map (some mb)) w1) τ) i1 i2
  have hQm : ∀ fr cs w, DoneF Tryz.prog 56 R fr cs w → ∀ ch, fr.mode ≠ .panicking ch := fun fr cs w ⟨_, _, v, h, _⟩ ch e => by rw [h.1] at e; cases e
  have hgo := sim_go S false (c :: cs) hQm hmust (up := []) (up' := []) rfl hfr .nil (WN.of hwr) hnl hB
  have hfra := WG.frame (H := F0) hgo hF.low
  have eF : (fun b => rng (rdm db mb) b ∨ F0 b) = F0 := by
    funext b
    refine propext ⟨fun h => h.elim (fun ⟨a, h1, h2⟩ => ?_) id, .inr⟩
    subst h1
    rcases h2 with rfl | rfl
    · exact hdb
    · exact hmb
  have eO : own (XW (dm db mb)) (rdm db mb) = fun _ => False := by
    funext b
    exact propext ⟨fun ⟨a, h1, h2⟩ => h2 h1.2, False.elim⟩
  rw [eF, eO] at hfra
  refine WG.then hfra ?_
  rintro F' O g w ⟨F, hst, hF', hlow⟩
  refine WG.stop fun w2 e2 => ?_
  cases hst with
  | special _ h => cases h
  | @done ρ fr fr' up up' wl w' h1 h2 h3 h4 h5 h6 =>
    obtain ⟨hc, hfn, v, hlv, hr⟩ := h6
    have hup : up = [] := by
      have := congrArg List.length hc
      simp at this
      exact List.eq_nil_of_length_eq_zero (by simpa using this)
    subst hup
    cases h2
    obtain ⟨l1, l2, l3, fn, l4, l5⟩ := hlv
    have h3' := h3.ext (e2.sub fun b hb => (hF' b).2 (.inl hb))
    obtain rfl := fn_pairs l4 hfn
    obtain rfl := res_pairs_run l5
    have hvr : VR (fun f => fbP f = true) ρ (fr.tmps.getD 6 undef) (fr'.tmps.getD 6 undef) := VsR.agetD h1.tmps 6
    refine ⟨⟨fun b hb => ?_, fun b hb => ?_⟩, fr'.tmps.getD 6 undef, hmono _ _ _ _ (htr ρ _ _ _ _ hr hvr h3') (fun b hb => (hF' b).2 (.inl hb)), rfl, fun c' cs' e w3 => ?_⟩
    · rcases (hF' b).1 hb with ⟨a, hab⟩ | hb
      · obtain ⟨τ, _, k⟩ := h3'
        obtain ⟨o, o', _, k2, _⟩ := k.heap hab
        exact (Array.getElem?_eq_some_iff.1 k2).1
      · exact Nat.lt_of_lt_of_le (hlow b hb) e2.size
    · obtain ⟨a, hab, _⟩ := hb
      exact (hF' b).2 (.inl ⟨a, hab⟩)
    · cases e
      have m1 : fr'.mode = .returning := h1.mode.trans l1
      have m2 : fr'.defers = [] := by
        have := h1.defers
        rw [l2] at this
        generalize fr'.defers = d at this
        cases this
        rfl
      have m3 : Tryz.prog.funcs[fr'.fn]? = some Tryz.f56 := by
        rw [h1.fn, hfn]; exact Tryz.func56
      show stepG Tryz.prog false (G fr' (c :: cs)) w3 = _
      rw [stepG_ret _ _ _ _ _ m1]
      obtain ⟨fn0, tmps0, todo0, defers0, mode0, kind0, ro0⟩ := fr'
      obtain rfl : kind0 = .normal := h1.kind'
      obtain rfl : defers0 = [] := m2
      obtain rfl : mode0 = .returning := m1
      have m3 : Tryz.prog.funcs[fn0]? = some Tryz.f56 := m3
      unfold unwind
      dsimp only
      rw [m3]
      dsimp only
      rw [res_pairs]
      rfl
end
end Go.Proofs.YtkpekiajdlolnabGreat.Ph

/-
  SCAN IN COMPANY, seventh text: WHAT STOOD STANDS, through goroutine 0's silent stretches.
-/
namespace Go.Proofs.YtkpekiajdlolnabGreat.Ph
open Go.Conc Go.ConcN Go.RowKit Go.Conc.Lib Go.ConcR.Gen Go.ConcN.Gen Go Go.Proofs.YtkpekiajdlolnabGreat.Sim
open Go.ConcR (KK wgBlock WgAt stA smA rd wr mk Payload Aside2 DC0 ofEvent_cell)

section
variable {P : Program} {ty : TypeId} {Wg : Nat} {F : Blocks} {w0 : World} {Stop : Goroutine → World → Prop}
theorem goes_keep : ∀ (m : Nat) {g : Goroutine} {w : World}, Goes P true (RM ty Wg F) DC0 Stop m g w → Ext F w0 w → Goes P true (RM ty Wg F) DC0 (fun g w => Stop g w ∧ Ext F w0 w) m g w := by
  intro m
  induction m with
  | zero => exact fun h e w1 r => ⟨h w1 r, e.trans r.ext⟩
  | succ m ih =>
    intro g w h e
    rcases h with h | ⟨h1, h2⟩
    · exact .inl fun w1 r => ⟨h w1 r, e.trans r.ext⟩
    · refine .inr ⟨h1, fun w1 r => ?_⟩
      have := h2 w1 r
      cases hs : stepG P true g w1 with
      | go g' w' es =>
        rw [hs, goes_go] at this
        rw [goes_go]
        refine ⟨this.1, ih this.2 ?_⟩
        obtain ⟨rfl, _⟩ := this.1
        exact e.trans r.ext
      | _ => rw [hs] at this; exact this.elim
theorem MG.keep {g : Goroutine} {w : World} (h : MG P ty Wg F Stop g w) (e : Ext F w0 w) : MG P ty Wg F (fun g w => Stop g w ∧ Ext F w0 w) g w := let ⟨m, h⟩ := h; ⟨m, goes_keep m h e⟩
theorem goes_mono' {Stop' : Goroutine → World → Prop} (hs : ∀ g w, Stop g w → Stop' g w) : ∀ (m : Nat) {g : Goroutine} {w : World}, Goes P true (RM ty Wg F) DC0 Stop m g w → Goes P true (RM ty Wg F) DC0 Stop' m g w := by
  intro m
  induction m with
  | zero => exact fun h w1 r => hs _ _ (h w1 r)
  | succ m ih =>
    intro g w h
    rcases h with h | ⟨h1, h2⟩
    · exact .inl fun w1 r => hs _ _ (h w1 r)
    · refine .inr ⟨h1, fun w1 r => ?_⟩
      have := h2 w1 r
      cases hs : stepG P true g w1 with
      | go g' w' es =>
        rw [hs, goes_go] at this
        rw [goes_go]
        exact ⟨this.1, ih this.2⟩
      | _ => rw [hs] at this; exact this.elim
theorem MG.mono {Stop' : Goroutine → World → Prop} {g : Goroutine} {w : World} (h : MG P ty Wg F Stop g w) (hs : ∀ g w, Stop g w → Stop' g w) : MG P ty Wg F Stop' g w := let ⟨m, h⟩ := h; ⟨m, goes_mono' hs m h⟩
/-- through a mark. -/
theorem AtMk.keep {m : Mark} {K K' : Goroutine → World → Prop} {g : Goroutine} {w : World} (h : AtMk P m K g w) (hk : ∀ g, K g w → K' g w) : AtMk P m K' g w :=
  ⟨h.1, let ⟨g', h1, h2⟩ := h.2; ⟨g', h1, hk _ h2⟩⟩
theorem ext_set {w : World} {v : Value} (hW : ¬ F Wg) (e : Ext F w0 w) : Ext F w0 (w.setCell (stA Wg) v) :=
  e.trans ⟨Nat.le_of_eq (aside_setCell w (stA Wg) v).size.symm, fun b hb => (aside_setCell w (stA Wg) v).block b fun (x : b = Wg) => hW (by rw [← x]; exact hb)⟩
/-- through the whole of Add. -/
theorem add_keep {K : Goroutine → World → Prop} {g : Goroutine} {w : World} (hW : ¬ F Wg) (h : MG P ty Wg F (AtMk P .disable (MG P ty Wg F (AtAdd P ty Wg F (MG P ty Wg F K)))) g w) (e : Ext F w0 w) :
    MG P ty Wg F (AtMk P .disable (MG P ty Wg F (AtAdd P ty Wg F (MG P ty Wg F (fun g w => K g w ∧ Ext F w0 w))))) g w := by
  refine (h.keep e).mono fun g w ⟨h1, e1⟩ => h1.keep fun g h2 => (h2.keep e1).mono fun g w ⟨h3, e3⟩ => ⟨h3.1, fun v hv hw => ?_⟩
  obtain ⟨g', k1, k2⟩ := h3.2 v hv hw
  have e4 : Ext F w0 (w.setCell (stA Wg) (.int .u64 ((v + 1) * KK))) := ext_set hW e3
  refine ⟨g', k1, k2.imp (fun ⟨a, b⟩ => ⟨a, ?_⟩) (fun ⟨a, b⟩ => ⟨a, ?_⟩)⟩
  · exact (b.keep e4).mono fun g w ⟨b1, e5⟩ => b1.keep fun g b2 => (b2.keep e5).mono fun g w ⟨b3, e6⟩ => b3.keep fun g b4 => b4.keep e6
  · exact (b.keep e4).mono fun g w ⟨b1, e5⟩ => b1.keep fun g b4 => b4.keep e5
theorem add_mono {K K' : Goroutine → World → Prop} (hs : ∀ g w, K g w → K' g w) {g : Goroutine} {w : World} (h : MG P ty Wg F (AtMk P .disable (MG P ty Wg F (AtAdd P ty Wg F (MG P ty Wg F K)))) g w) :
    MG P ty Wg F (AtMk P .disable (MG P ty Wg F (AtAdd P ty Wg F (MG P ty Wg F K')))) g w :=
  h.mono fun g w h1 => h1.keep fun g h2 => h2.mono fun g w h3 => ⟨h3.1, fun v hv hw => by
    obtain ⟨g', k1, k2⟩ := h3.2 v hv hw
    refine ⟨g', k1, k2.imp (fun ⟨a, b⟩ => ⟨a, ?_⟩) (fun ⟨a, b⟩ => ⟨a, ?_⟩)⟩
    · exact b.mono fun g w b1 => b1.keep fun g b2 => b2.mono fun g w b3 => b3.keep fun g b4 => b4.mono hs
    · exact b.mono fun g w b1 => b1.keep fun g b4 => b4.mono hs⟩
end
end Go.Proofs.YtkpekiajdlolnabGreat.Ph

/-
  SCAN IN COMPANY, eighth text: THE STARTER: one call of Add, and the go statement.
-/
namespace Go.Proofs.YtkpekiajdlolnabGreat.Ph
open Go.Conc Go.ConcN Go.RowKit Go.Conc.Lib Go.ConcR.Gen Go.ConcN.Gen Go Go.Proofs.YtkpekiajdlolnabGreat.Sim
open Go.ConcR (KK wgBlock WgAt stA smA rd wr mk Payload Aside2 DC0 ofEvent_cell)

abbrev fS : FuncId := 27
def bS : Frame := base fS
noncomputable def sBody : Code := Tryz.f27.body.getD .skip
/-- behind the group's making: the loop of the starter, and the rest. -/
noncomputable def sAfter : Code := match sBody with | .seq _ (.seq _ (.seq _ (.seq _ c))) => c | _ => .skip
noncomputable def sL : Code := match sAfter with | .seq (.seq _ (.block _ (.loop c))) _ => c | _ => .skip
noncomputable def sR : Code := match sAfter with | .seq _ c => c | _ => .skip
noncomputable def sIn : Code := match sL with | .seq _ (.seq _ (.seq (.block _ c) _)) => c | _ => .skip
noncomputable def rg : Code → Array Oper | .region _ ops _ => ops | _ => #[]
noncomputable def R6 : Array Oper := match sL with | .seq a _ => rg a | _ => #[]
noncomputable def R10 : Array Oper := match sL with | .seq _ (.seq _ (.seq _ a)) => rg a | _ => #[]
noncomputable def R7 : Array Oper := match sIn with | .seq a _ => rg a | _ => #[]
noncomputable def R8 : Array Oper := match sIn with | .seq _ (.seq a _) => rg a | _ => #[]
noncomputable def R9 : Array Oper := match sIn with | .seq _ (.seq _ a) => rg a | _ => #[]
theorem sL_eq : sL = .seq (.region 6 R6 false) (.seq (.cond (.tmp 19) .skip (.exit 0)) (.seq (.block 1 sIn) (.region 10 R10 false))) := rfl
theorem sIn_eq : sIn = .seq (.region 7 R7 false) (.seq (.region 8 R8 false) (.region 9 R9 false)) := rfl

/-- the temporaries of Scan while it starts: those that count. -/
structure ScT (kb cb fb tb C Wg : Nat) (T : Array Value) : Prop where
  size : T.size = 42
  t4 : T.getD 4 undef = .pointer (some ⟨cb, 0, none⟩)
  t5 : T.getD 5 undef = .pointer (some ⟨fb, 0, none⟩)
  t6 : T.getD 6 undef = .pointer (some ⟨tb, 0, none⟩)
  t10 : T.getD 10 undef = .pointer (some ⟨C, 0, none⟩)
  t11 : T.getD 11 undef = .pointer (some ⟨Wg, 0, none⟩)
  t12 : T.getD 12 undef = .pointer (some ⟨kb, 0, none⟩)

section
variable {kb cb fb tb C Wg : Nat} {T : Array Value} {F : Blocks} {w : World} {k : List Item} {cs : List Frame}
/-- the closure. -/
def clW (Wg cb kb fb tb C : Nat) : Value := .func (.func fW) #[] #[.pointer (some ⟨Wg, 0, none⟩), .pointer (some ⟨cb, 0, none⟩), .pointer (some ⟨kb, 0, none⟩), .pointer (some ⟨fb, 0, none⟩), .pointer (some ⟨tb, 0, none⟩), .pointer (some ⟨C, 0, none⟩)]
/-- the temporaries at the go statement. -/
def T9 (Wg cb kb fb tb C : Nat) (T : Array Value) : Array Value := (T.setIfInBounds 21 (.tuple #[])).setIfInBounds 22 (clW Wg cb kb fb tb C)
def AtGo0 (Wg cb kb fb tb C : Nat) (T : Array Value) (k : List Item) (cs : List Frame) (g : Goroutine) (_ : World) : Prop := g = G (bS.at ⟨T9 Wg cb kb fb tb C T, []⟩ (.inRegion R9 [1] :: k)) cs

theorem behindAdd (hT : ScT kb cb fb tb C Wg T) (w : World) : Goes Tryz.prog true (RM link.tWg Wg F) DC0 (AtGo0 Wg cb kb fb tb C T k cs) 3
    (G (bS.at ((Act.mk T []).put ((R8[0]?).bind (·.dst)) (.tuple #[])) (.inRegion R8 [] :: .code (.region 9 R9 false) :: k)) cs) w := by
  refine Goes.step rfl fun w1 _ => ?_
  rw [stepG_region_end]
  simp only [goes_go]
  refine ⟨⟨rfl, rfl⟩, ?_⟩
  refine Goes.step rfl fun w2 _ => ?_
  rw [stepG_region]
  simp only [goes_go]
  refine ⟨⟨rfl, rfl⟩, ?_⟩
  show Goes _ _ _ _ _ 1 (G (bS.at ⟨T.setIfInBounds 21 (.tuple #[]), []⟩ (.inRegion R9 [0, 1] :: k)) cs) w2
  refine Goes.step rfl fun w3 _ => ?_
  obtain ⟨o, ho, hop, hd, hg⟩ : ∃ o, R9[0]? = some o ∧ o.op = .makeFunc (.func fW) #[] #[.tmp 11, .tmp 4, .tmp 12, .tmp 5, .tmp 6, .tmp 10] ∧ o.dst = some 22 ∧ o.guard = none := ⟨_, rfl, rfl, rfl, rfl⟩
  have hwant : Region.wanted o (yielded R9 (Act.mk (T.setIfInBounds 21 (.tuple #[])) []).tmps) = true := by unfold Region.wanted; rw [hg]
  have ev : (execOp (Act.mk (T.setIfInBounds 21 (.tuple #[])) []).eval o).run Tryz.prog w3 = .ok (.value (clW Wg cb kb fb tb C)) w3 ∧ (execOp (Act.mk (T.setIfInBounds 21 (.tuple #[])) []).eval o).events Tryz.prog w3 #[] = #[] := by
    have b4 : (Act.mk (T.setIfInBounds 21 (.tuple #[])) []).eval (.tmp 4) = _ := (tset_ne (by omega)).trans hT.t4
    have b5 : (Act.mk (T.setIfInBounds 21 (.tuple #[])) []).eval (.tmp 5) = _ := (tset_ne (by omega)).trans hT.t5
    have b6 : (Act.mk (T.setIfInBounds 21 (.tuple #[])) []).eval (.tmp 6) = _ := (tset_ne (by omega)).trans hT.t6
    have b10 : (Act.mk (T.setIfInBounds 21 (.tuple #[])) []).eval (.tmp 10) = _ := (tset_ne (by omega)).trans hT.t10
    have b11 : (Act.mk (T.setIfInBounds 21 (.tuple #[])) []).eval (.tmp 11) = _ := (tset_ne (by omega)).trans hT.t11
    have b12 : (Act.mk (T.setIfInBounds 21 (.tuple #[])) []).eval (.tmp 12) = _ := (tset_ne (by omega)).trans hT.t12
    generalize (Act.mk (T.setIfInBounds 21 (.tuple #[])) []).eval = e at *
    unfold execOp
    constructor
    · simp [go_sem, hop, b4, b5, b6, b10, b11, b12, clW]
    · simp [go_sem, hop, b4, b5, b6, b10, b11, b12]
  rw [stepG_value ho hwant (by decide) ev.1]
  simp only [goes_go]
  refine ⟨⟨rfl, ?_⟩, ?_⟩
  · unfold listed; rw [ev.2, seen_none]
  · rw [hd]
    exact fun _ _ => rfl

theorem atGo {Res : Nat → Blocks → Value → World → Prop} {i : Nat} {Next : Goroutine → World → Prop} (hT : ScT kb cb fb tb C Wg T) {g : Goroutine} (hg : AtGo0 Wg cb kb fb tb C T k cs g w)
    (hs : PayAt C 4 w → Script Tryz.prog link.tWg Wg C 4 Res i F (born Tryz.prog (callW Wg cb kb fb tb C)) w) (hn : Next (G (bS.at ⟨T9 Wg cb kb fb tb C T, []⟩ (.inRegion R9 [] :: k)) cs) w) :
    AtGoM Tryz.prog link.tWg Wg C 4 Res i F Next g w := by
  obtain rfl := hg
  obtain ⟨o, ho, hop, hd, hgd⟩ : ∃ o, R9[1]? = some o ∧ o.op = .go { callee := .value (.tmp 22), args := #[], argTypes := #[] } ∧ o.dst = none ∧ o.guard = none := ⟨_, rfl, rfl, rfl, rfl⟩
  have hwant : Region.wanted o (yielded R9 (Act.mk (T9 Wg cb kb fb tb C T) []).tmps) = true := by unfold Region.wanted; rw [hgd]
  have ev : (execOp (Act.mk (T9 Wg cb kb fb tb C T) []).eval o).run Tryz.prog w = .ok (.spawn (callW Wg cb kb fb tb C)) w ∧ (execOp (Act.mk (T9 Wg cb kb fb tb C T) []).eval o).events Tryz.prog w #[] = #[] := by
    have b22 : (Act.mk (T9 Wg cb kb fb tb C T) []).eval (.tmp 22) = clW Wg cb kb fb tb C := tset_same (by simp [hT.size])
    generalize (Act.mk (T9 Wg cb kb fb tb C T) []).eval = e at *
    unfold execOp
    constructor
    · simp [go_sem, hop, b22, clW, callW, resolve, Deferred.ofValue]
    · simp [go_sem, hop, b22, clW, resolve, Deferred.ofValue]
  have hsp := stepG_spawn (P := Tryz.prog) (main := true) (b := bS) (k := k) (cs := cs) (rest := []) ho hwant (by decide) ev.1 (f := .func fW) (c := #[.pointer (some ⟨Wg, 0, none⟩), .pointer (some ⟨cb, 0, none⟩), .pointer (some ⟨kb, 0, none⟩), .pointer (some ⟨fb, 0, none⟩), .pointer (some ⟨tb, 0, none⟩), .pointer (some ⟨C, 0, none⟩)]) rfl
  rw [hd] at hsp
  have hl : listed Tryz.prog bS.fn (Act.mk (T9 Wg cb kb fb tb C T) []) o w = #[] := by unfold listed; rw [ev.2, seen_none]
  rw [hl] at hsp
  exact ⟨rfl, _, _, hsp, rfl, hs, hn⟩

set_option maxRecDepth 100000 in
/-- ONE CALL OF Add, AND THE GO STATEMENT BEHIND IT. -/
theorem sAdd {Res : Nat → Blocks → Value → World → Prop} {i : Nat} {Next : Goroutine → World → Prop} (hT : ScT kb cb fb tb C Wg T) (hW : ¬ F Wg) (hl : WgLive link.tWg Wg w)
    (hs : ∀ w1, Ext F w w1 → PayAt C 4 w1 → Script Tryz.prog link.tWg Wg C 4 Res i F (born Tryz.prog (callW Wg cb kb fb tb C)) w1) (hn : ∀ w1, Ext F w w1 → Next (G (bS.at ⟨T9 Wg cb kb fb tb C T, []⟩ (.inRegion R9 [] :: k)) cs) w1) :
    MG Tryz.prog link.tWg Wg F (AtMk Tryz.prog .disable (MG Tryz.prog link.tWg Wg F (AtAdd Tryz.prog link.tWg Wg F (MG Tryz.prog link.tWg Wg F (AtGoM Tryz.prog link.tWg Wg C 4 Res i F Next)))))
      (G (Frame.enter Tryz.prog 53 #[.pointer (some ⟨Wg, 0, none⟩), .int .i64 1] .normal) (bS.at ⟨T, []⟩ (.inRegion R8 [0] :: .code (.region 9 R9 false) :: k) :: cs)) w := by
  have h1 := add1 (F := F) wgLib (K := AtGo0 Wg cb kb fb tb C T k cs) (b₀ := bS) (a₀ := ⟨T, []⟩) (ops₀ := R8) (i₀ := 0) (rest₀ := []) (k₀ := .code (.region 9 R9 false) :: k) (cs := cs) (fun w _ => behindAdd hT w) w hl
  have h2 := add_keep hW h1 (Ext.refl F w)
  rw [enter_at _ Tryz.func53 (show Tryz.f53.body = some (body_add link) from rfl)]
  walk_nrmf Tryz.f53
  exact add_mono (fun g w ⟨h, e⟩ => atGo hT h (hs w e) (hn w e)) h2
end
end Go.Proofs.YtkpekiajdlolnabGreat.Ph
