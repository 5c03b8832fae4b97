/-
  PROVED IN PARTS: text 7 of 10 of the carrying ground of the claim (see each part's own remark). Conditions: those that each theorem names.
-/
import Derived.Test.YtkpekiajdlolnabGreatM06
import Derived.Test.YtkpekiajdlolnabGreatChecked
import Derived.WalkKit
import Derived.LoopTactic
import Derived.Lib.Hide
import Derived.Outline
import Derived.Maps.Own
import Derived.StringKeys
import Derived.Maps.OwnOps
import Derived.Maps.OwnSet
import Derived.BigQuiet
import Derived.Deep.QuietTactic
import Derived.StillTailTactics
import Derived.Laws.AppendOwn
import Derived.OwnWalk
import Derived.Laws.Cover1
import Derived.Deep.RegionHeld3
import Derived.Deep.RegionWith
set_option linter.unusedVariables false
set_option linter.unusedSimpArgs false

/-
  THE COMPANY's WALK, fourth text: frames of which nothing is asked: an operation on what is kept; a look at the caller's own data.
-/
namespace Go.Proofs.YtkpekiajdlolnabGreat.Ph
open Go Go.Conc Go.ConcN Go.Proofs.YtkpekiajdlolnabGreat.Sim

theorem runT_load1 {P : Program} {w : World} {v : Value} {a : Addr} (h : w.cell? a = some v) (es : Array Event) : (Go.load a).runT P w es = (.ok v w, es.push ⟨.cell a, false, false⟩) := by
  unfold Go.load
  simp only [Sem.runT, h]
  rfl
theorem runT_cellsFrom {P : Program} {w : World} {a : Addr} : ∀ (l : List Value) (i : Nat) (acc : Array Value) (es : Array Event), (∀ j v, l[j]? = some v → w.cell? (a.add (i + j)) = some v) →
    ∃ es1, (loadCellsFrom a i l.length acc).runT P w es = (.ok (acc ++ l.toArray) w, es ++ es1) ∧ ∀ e ∈ es1, ∃ j, e = ⟨.cell (a.add j), false, false⟩
  | [], i, acc, es, _ => ⟨#[], by simp [loadCellsFrom, Pure.pure, Sem.runT], by simp⟩
  | v :: l, i, acc, es, h => by
    obtain ⟨es1, h1, h2⟩ := runT_cellsFrom (P := P) l (i + 1) (acc.push v) (es.push ⟨.cell (a.add i), false, false⟩) fun j x hj => by
      have := h (j + 1) x (by simpa using hj)
      rwa [show i + (j + 1) = i + 1 + j by omega] at this
    refine ⟨#[⟨.cell (a.add i), false, false⟩] ++ es1, ?_, fun e he => ?_⟩
    · have h0 := h 0 v rfl
      rw [Nat.add_zero] at h0
      show ((Go.load (a.add i)).bind fun v => loadCellsFrom a (i + 1) l.length (acc.push v)).runT P w es = _
      rw [Sem.runT_bind', runT_load1 h0]
      simp only []
      rw [h1]
      have e1 : acc.push v ++ l.toArray = acc ++ (v :: l).toArray := by apply Array.ext'; simp
      have e2 : es.push (⟨.cell (a.add i), false, false⟩ : Event) ++ es1 = es ++ (#[⟨.cell (a.add i), false, false⟩] ++ es1) := by apply Array.ext'; simp
      rw [e1, e2]
    · rcases Array.mem_append.1 he with he | he
      · simp at he; exact ⟨i, he⟩
      · exact h2 e he
/-- a variable of many cells is looked at. -/
theorem runT_loadAt {P : Program} {w : World} {a : Addr} {ty : TypeId} (l : List Value) (hA : ∀ es, (isAgg ty).runT P w es = (.ok true w, es)) (hS : ∀ es, (sizeOf ty).runT P w es = (.ok l.length w, es)) (hc : ∀ j v, l[j]? = some v → w.cell? (a.add j) = some v) :
    ∃ es1, (Instr.loadAt ty (.pointer (some a))).runT P w #[] = (.ok (.agg l.toArray) w, es1) ∧ ∀ e ∈ es1, ∃ j, e = ⟨.cell (a.add j), false, false⟩ := by
  obtain ⟨es1, h1, h2⟩ := runT_cellsFrom (P := P) (w := w) (a := a) l 0 #[] #[] fun j v hj => by rw [Nat.zero_add]; exact hc j v hj
  refine ⟨es1, ?_, h2⟩
  show ((isAgg ty).bind fun c => if c = true then (sizeOf ty).bind fun n => (loadCellsFrom a 0 n #[]).bind fun cs => Sem.pure (.agg cs) else Go.load a).runT P w #[] = _
  rw [Sem.runT_bind', hA]
  simp only [if_true]
  rw [Sem.runT_bind', hS]
  simp only []
  rw [Sem.runT_bind', h1]
  simp [Sem.runT]

section
variable {N : Blocks} {kv : List Value} {cs cs1 : List Frame} {w : World} {Z : Frame → World → Prop} {b : Frame} {a : Act} {k : List Item}
/-- an operation on what is kept: its operands are what e says. -/
theorem CGo.blind {ops : Array Oper} {i : Nat} {td : List Nat} {o : Oper} {e : Operand → Value} {R : Value → World → Prop} (hbl : blG b.fn = true) (hk : b.kind ≠ .early) (ho : ops[i]? = some o) (hok : okOp XG.P XG.P' fb true o = true) (hw : Region.wanted o (yielded ops a.tmps) = true)
    (hsame : execOp a.eval o = execOp e o) (he : ∀ ρ, (∀ v ∈ kv, VR XG.F ρ v v) → EvR XG.F fb ρ e e) (hr : ∀ wc, Same w wc → ∃ v w1, (execOp e o).run XG.P wc = .ok (.value v) w1 ∧ R v w1 ∧ wc.heap.size ≤ w1.heap.size)
    (n : ∀ v w1, R v w1 → CGo N (v :: kv) cs (b.at (a.put o.dst v) (.inRegion ops td :: k)) w1 cs1 Z) : CGo N kv cs (b.at a (.inRegion ops (i :: td) :: k)) w cs1 Z := fun wc s gs sl t SB ρ q hc hN hK => by
  have key : ∀ d, ∃ v w1, (execOp e o).run XG.P (wc.at d) = .ok (.value v) w1 ∧ R v w1 ∧ wc.heap.size ≤ w1.heap.size := fun d => hr (wc.at d) (s.trans (Same.at wc d))
  have hwr : ∀ d, WR XG ρ (wc.at d) (wc.at d) := fun d => ⟨hc.wr.fn, hc.wr.inj, hc.wr.heap, fun _ _ => rfl, hc.wr.sh⟩
  have hst : ∀ d v w1, (execOp e o).run XG.P (wc.at d) = .ok (.value v) w1 → stepG XG.P true (G (b.at a (.inRegion ops (i :: td) :: k)) cs) (wc.at d) = .go (G (b.at (a.put o.dst v) (.inRegion ops td :: k)) cs) w1 _ := fun d v w1 h =>
    stepG_value (P := XG.P) (main := true) (b := b) (k := k) (cs := cs) (rest := td) (a := a) (w := wc.at d) ho hw hk (by rw [hsame]; exact h)
  have step : ∀ d v w1, (execOp e o).run XG.P (wc.at d) = .ok (.value v) w1 → wc.heap.size ≤ w1.heap.size →
      ∃ ρ1, ρ.le ρ1 ∧ WR XG ρ1 w1 w1 ∧ VR XG.F ρ1 v v ∧ StepOK (rng ρ) (own XG ρ) (wc.at d) (rng ρ1) (own XG ρ1) w1 ((execOp e o).events XG.P (wc.at d) #[]) := fun d v w1 h _ =>
    let ⟨ρ1, m1, m2, m3, m4, _⟩ := op_step rfl setXG hok (he ρ hK) (hwr d) h
    ⟨ρ1, m1, m2, m3, m4⟩
  have hap : ∀ (d : Nat) (v : Value) (w1 : World) (ρ1 : Rel) (es : Array Event), StepOK (rng ρ) (own XG ρ) (wc.at d) (rng ρ1) (own XG ρ1) w1 es → ∀ b, rng ρ1 b → ¬ SB b := fun d v w1 ρ1 es m4 b hb hs => by
    rcases m4.new b hb with h1 | h1
    · exact hc.foot.apart b h1 hs
    · have h2 : wc.heap.size ≤ b := h1
      have := hc.foot.low b hs
      omega
  obtain ⟨M, gs1, a1, d, w1, es, sl1, t1, q1, hrun, hgo, hz, h01, hL1, hP1, _⟩ := beside_one (P := XG.P) (SB := SB) (sl := sl) hc.g0 rfl hc.leavers hc.past fun d => by
    obtain ⟨v, w1, h1, _, h3⟩ := key d
    obtain ⟨ρ1, m1, m2, m3, m4⟩ := step d v w1 h1 h3
    refine ⟨_, w1, _, hst d v w1 h1, h3, fun ev hev => ?_⟩
    have := mem_listed hev
    rw [hsame] at this
    exact evZ_of (m4.ev ev this) (hap d v w1 ρ1 _ m4) m4.low
  obtain ⟨v, w1', h1, h2, h3⟩ := key d
  obtain ⟨ρ1, m1, m2, m3, m4⟩ := step d v w1' h1 h3
  rw [hst d v w1' h1] at hgo
  injection hgo with e1 e2 e3
  subst e1; subst e2
  obtain ⟨gs2, fr2, w2, sl2, t2, SB2, ρ2, q2, k1, k2, k3, k4, k5⟩ := n v w1' h2 w1' (Same.refl _) gs1 sl1 t1 SB ρ1 q1
    ⟨h01, hL1, hP1, ⟨hap d v w1' ρ1 _ m4, fun b hb => Nat.lt_of_lt_of_le (hc.foot.low b hb) h3, m4.own, m4.low⟩, fun hb => (by rw [show (b.at (a.put o.dst v) (.inRegion ops td :: k)).fn = b.fn from rfl, hbl] at hb; cases hb), fun c hcc hb => (hc.cs c hcc hb).mono m1, m2, trivial⟩ hN
    (fun x hx => by
      rcases List.mem_cons.1 hx with rfl | hx
      · exact m3
      · exact (hK x hx).mono m1)
  exact ⟨gs2, fr2, w2, sl2, t2, SB2, ρ2, q2, Runs.trans ⟨M, hrun⟩ k1, k2, k3, k4, fun x hx => k5 x (.tail _ hx)⟩
set_option maxRecDepth 100000 in
/-- a look at the caller's own data. -/
theorem CGo.look {ops : Array Oper} {i x : Nat} {td : List Nat} {o : Oper} {ty : TypeId} {b0 o0 : Nat} {l : List Value} (hbl : blG b.fn = true) (hk : b.kind ≠ .early) (ho : ops[i]? = some o) (hop : o.op = .load ty (.tmp x)) (hw : Region.wanted o (yielded ops a.tmps) = true)
    (hx : a.eval (.tmp x) = .pointer (some ⟨b0, o0, none⟩)) (hNb : N b0) (hA : ∀ w es, (isAgg ty).runT XG.P w es = (.ok true w, es)) (hS : ∀ w es, (sizeOf ty).runT XG.P w es = (.ok l.length w, es)) (hlt : b0 < w.heap.size)
    (hc : ∀ j v, l[j]? = some v → w.cell? ((⟨b0, o0, none⟩ : Addr).add j) = some v) (hv : ∀ ρ, VR XG.F ρ (.agg l.toArray) (.agg l.toArray))
    (n : CGo N kv cs (b.at (a.put o.dst (.agg l.toArray)) (.inRegion ops td :: k)) w cs1 Z) : CGo N kv cs (b.at a (.inRegion ops (i :: td) :: k)) w cs1 Z := fun wc s gs sl t SB ρ q hcc hN hK => by
  have run : ∀ d, ∃ es1, (execOp a.eval o).runT XG.P (wc.at d) #[] = (.ok (.value (.agg l.toArray)) (wc.at d), es1) ∧ ∀ e ∈ es1, ∃ j, e = ⟨.cell ((⟨b0, o0, none⟩ : Addr).add j), false, false⟩ := fun d => by
    obtain ⟨es1, h1, h2⟩ := runT_loadAt (P := XG.P) (w := wc.at d) (a := ⟨b0, o0, none⟩) (ty := ty) l (hA _) (hS _) fun j v hj => by
      have := hc j v hj
      have e : (wc.at d).cell? ((⟨b0, o0, none⟩ : Addr).add j) = w.cell? ((⟨b0, o0, none⟩ : Addr).add j) := World.cell?_of_block (by show wc.heap[_]? = _; rw [s.heap])
      rw [e]; exact this
    refine ⟨es1, ?_, h2⟩
    have he : execOp a.eval o = (Instr.loadAt ty (.pointer (some ⟨b0, o0, none⟩))).bind fun v => Sem.pure (.value v) := by
      unfold execOp
      rw [hop, ← hx]
      rfl
    rw [he]
    rw [Sem.runT_bind', h1]
    simp [Sem.runT]
  have hst : ∀ d, stepG XG.P true (G (b.at a (.inRegion ops (i :: td) :: k)) cs) (wc.at d) = .go (G (b.at (a.put o.dst (.agg l.toArray)) (.inRegion ops td :: k)) cs) (wc.at d) _ := fun d =>
    stepG_value (P := XG.P) (main := true) (b := b) (k := k) (cs := cs) (rest := td) (a := a) (w := wc.at d) ho hw hk (by
      obtain ⟨es1, h1, _⟩ := run d
      rw [← Sem.runT_fst XG.P _ _ #[], h1])
  obtain ⟨M, gs1, a1, d, w1, es, sl1, t1, q1, hrun, hgo, hz, h01, hL1, hP1, _⟩ := beside_one (P := XG.P) (SB := SB) (sl := sl) hcc.g0 rfl hcc.leavers hcc.past fun d => by
    refine ⟨_, _, _, hst d, Nat.le_refl _, fun ev hev => ?_⟩
    have := mem_listed hev
    obtain ⟨es1, h1, h2⟩ := run d
    have ee : (execOp a.eval o).events XG.P (wc.at d) #[] = es1 := by
      have := congrArg Prod.snd h1
      simpa [Sem.runT_eq] using this
    rw [ee] at this
    obtain ⟨j, rfl⟩ := h2 ev this
    have hbk : ((⟨b0, o0, none⟩ : Addr).add j).block = b0 := by rw [Addr.add_lit]
    refine evZ_of (F := fun b => b = b0) (O := fun _ => False) (show EvF _ _ _ from ⟨rfl, hbk, fun e => by cases e⟩) (fun b hb => by subst hb; exact hN _ hNb) (fun b hb => by subst hb; show _ < wc.heap.size; rw [s.heap]; exact hlt)
  rw [hst d] at hgo
  injection hgo with e1 e2 e3
  subst e1; subst e2
  obtain ⟨gs2, fr2, w2, sl2, t2, SB2, ρ2, q2, k1, k2, k3, k4, k5⟩ := n (wc.at d) (s.trans (Same.at wc d)) gs1 sl1 t1 SB ρ q1
    ⟨h01, hL1, hP1, ⟨hcc.foot.apart, hcc.foot.low, hcc.foot.own, hcc.foot.foot⟩, fun hb => (by rw [show (b.at (a.put o.dst (.agg l.toArray)) (.inRegion ops td :: k)).fn = b.fn from rfl, hbl] at hb; cases hb), hcc.cs, ⟨hcc.wr.fn, hcc.wr.inj, hcc.wr.heap, fun _ _ => rfl, hcc.wr.sh⟩, trivial⟩ hN hK
  exact ⟨gs2, fr2, w2, sl2, t2, SB2, ρ2, q2, Runs.trans ⟨M, hrun⟩ k1, k2, k3, k4, k5⟩
end
end Go.Proofs.YtkpekiajdlolnabGreat.Ph

/-
  THE COMPANY's WALK, fifth text: a call of a class function from whatever frame; silent operations; fields.
-/
namespace Go.Proofs.YtkpekiajdlolnabGreat.Ph
open Go Go.Conc Go.ConcN Go.Proofs.YtkpekiajdlolnabGreat.Sim

section
variable {N : Blocks} {kv : List Value} {cs cs1 : List Frame} {w : World} {Z : Frame → World → Prop} {b : Frame} {a : Act} {k : List Item}
theorem CCalls.of {f : FuncId} {fn : Func} {args : Array Value} {R : Value → World → Prop} (hbl : blG f = false) (hfb : fb f = true) (hfn : XG.P.funcs[f]? = some fn) (hres : ∀ tmps, ∃ v, ∀ w, (results fn tmps).runT XG.P w #[] = (.ok v w, #[]))
    (hvr : ∀ ρ tmps v w, VsR XG.F ρ tmps.toList tmps.toList → (results fn tmps).run XG.P w = .ok v w → VR XG.F ρ v v) (hS : ∀ v w wc, Same w wc → R v w → R v wc)
    (hc : ∀ wc, Same w wc → Calls XG.P f args wc fun | .returned v, w' => R v w' | _, _ => False) : CCalls N kv f args w R := fun c cs wc s gs sl t SB ρ q h hN hK => by
  obtain ⟨fn', body, h1, h2, h3, _⟩ := fb_ok fb_all f hfb
  have henter : (Frame.enter XG.P f args .normal).todo = [.code body] := by
    unfold Frame.enter
    rw [show XG.P.funcs[f]? = some fn' from h1]
    simp [h2]
  have hf : FR XG fb true ρ (Frame.enter XG.P f args .normal) (Frame.enter XG.P f args .normal) := by
    have h0 := h.fr hbl
    refine ⟨rfl, h0.same, h0.tmps, ?_, h0.defers, rfl, h0.run, h0.kind, h0.kind', h0.round⟩
    rw [henter]
    exact .cons (.code h3) .nil
  have hB : Bot [Frame.enter XG.P f args .normal] := by
    intro g hg
    simp at hg
    subst hg
    unfold Frame.enter
    rw [show XG.P.funcs[f]? = some fn' from h1]
  have hinv : Inv XG fb true (Frame.enter XG.P f args .normal) [c0] wc := ⟨ρ, _, [], [], wc, rfl, hf, .nil, h.wr, trivial, hB⟩
  have hm := must_of_calls_fn setXG hinv (R := R) (fun v w τ hr => hS v (re w τ) w ⟨rfl, rfl, rfl⟩ hr) fun τ _ => hc (re wc τ) (s.trans (Same.re wc τ))
  have hQm : ∀ fr cs w, DoneF XG.P f R fr cs w → ∀ ch, fr.mode ≠ .panicking ch := fun fr cs w ⟨_, _, v, h, _⟩ ch e => by rw [h.1] at e; cases e
  obtain ⟨M, gs1, fr2, up2, w2, wc2, sl1, t1, q1, ρ2, hr, ⟨hcs, hf2, v, ⟨l1, l2, l3, fn2, l4, l5⟩, hRv⟩, hz, g0, hs, g1, g2, g3, g4, g5, hL, hP, hF⟩ := beside_lone (sl := sl) rfl setXG hQm hm (up := []) (base := c :: cs) rfl (by simp) hf .nil (WN.of h.wr) (Same.refl wc) trivial hB h.g0 h.leavers h.past h.foot
  have hu : up2 = [] := by
    have := congrArg List.length hcs
    simp at this
    exact List.eq_nil_of_length_eq_zero (by simpa using this)
  subst hu
  rw [hf2, hfn] at l4
  cases l4
  obtain ⟨v', hv'⟩ := hres fr2.tmps
  have ev : v' = v := by
    have := congrArg Prod.fst (hv' w2)
    rw [Sem.runT_fst, l5] at this
    cases this
    rfl
  subst ev
  have hl : Leaves fr2 v' := ⟨l1, l2, l3, fn, by rw [hf2]; exact hfn, hv'⟩
  have hco : Co XG fb blG SB ρ2 gs1 fr2 (c :: cs) wc2 t1 q1 := ⟨g0, hL, hP, hF, fun _ => bareFR g1, fun c' hc' hb => (h.cs c' hc' hb).mono g4, WR.self setXG g3 hs wc2.drawn, trivial⟩
  have last : CGo N kv (c :: cs) fr2 wc2 cs (fun fr w' => ∃ v, fr = c.finish v ∧ R v w') :=
    CGo.sil (.step (fun w => stepG_leaves hl) (.refl _ _)) (fun ρ h1 h2 _ => ⟨fun hb => FSt.finish (h2 c (.head _) (by rw [← Frame.finish_fn c v']; exact hb)) (hvr ρ fr2.tmps v' w2 (h1 (by rw [hf2]; exact hbl)).tmps l5), fun c hc => h2 c (.tail _ hc)⟩) (CGo.done fun wc s => ⟨v', rfl, hS _ _ _ s (hS _ _ _ hs hRv)⟩)
  obtain ⟨gs3, fr3, w3, sl3, t3, SB3, ρ3, q3, k1, k2, k3, k4, k5⟩ := last wc2 (Same.refl _) gs1 sl1 t1 SB ρ2 q1 hco hN fun x hx => (hK x hx).mono g4
  exact ⟨gs3, fr3, w3, sl3, t3, SB3, ρ3, q3, Runs.trans ⟨M, hr⟩ k1, k2, k3, k4, k5⟩
/-- a silent operation of a blind frame. -/
theorem CGo.val {ops : Array Oper} {i : Nat} {td : List Nat} {o : Oper} (hbl : blG b.fn = true) (hk : b.kind ≠ .early) (v : Value) (ho : ops[i]? = some o) (hw : Region.wanted o (yielded ops a.tmps) = true)
    (hr : ∀ w, (execOp a.eval o).run XG.P w = .ok (.value v) w ∧ (execOp a.eval o).events XG.P w #[] = #[])
    (n : CGo N kv cs (b.at (a.put o.dst v) (.inRegion ops td :: k)) w cs1 Z) : CGo N kv cs (b.at a (.inRegion ops (i :: td) :: k)) w cs1 Z := by
  refine CGo.sil (.step (fun w1 => ?_) (.refl _ _)) (fun _ _ h2 _ => ⟨fun hb => ?_, h2⟩) n
  · have h := stepG_value (P := XG.P) (main := true) (b := b) (k := k) (cs := cs) (rest := td) (a := a) (w := w1) ho hw hk (hr w1).1
    rw [h]
    unfold listed
    rw [(hr w1).2, seen_none]
  · rw [show (b.at (a.put o.dst v) (.inRegion ops td :: k)).fn = b.fn from rfl, hbl] at hb
    cases hb
end
end Go.Proofs.YtkpekiajdlolnabGreat.Ph

/-
  CONTRACTS (lone), first text: shard.Of.
-/
namespace Go.Proofs.YtkpekiajdlolnabGreat
open Go.RowKit

def letter (b : UInt8) : Bool := decide (97 ≤ b.toNat) && decide (b.toNat ≤ 122)
/-- is it a key? -/
def keyB (l : List UInt8) : Bool := decide (0 < l.length) && (decide (l.length ≤ 8) && l.all letter)
/-- the shard of a key's first letter. -/
def shd (b : Nat) : Nat := if b ≤ 103 then 0 else if b ≤ 109 then 1 else if b ≤ 116 then 2 else 3
def shardOf (l : List UInt8) : Nat := shd ((l.headD 0).toNat)

theorem all_take_succ (s : ByteArray) (k : Nat) (h : k < s.size) : (s.data.toList.take (k + 1)).all letter = ((s.data.toList.take k).all letter && letter s[k]) := by
  have : s.data.toList.take (k + 1) = s.data.toList.take k ++ [s[k]] := by
    rw [List.take_succ_eq_append_getElem (by simpa using h)]; rfl
  rw [this, List.all_append]; simp

def OfNo (w : World) (e : Ending) (w' : World) : Prop := e = .returned (.tuple #[.int .i64 0, .bool false]) ∧ Below w.heap.size w w'
def OfYes (k : Nat) (w : World) (e : Ending) (w' : World) : Prop := e = .returned (.tuple #[.int .i64 k, .bool true]) ∧ Below w.heap.size w w'

theorem toList_nil {s : ByteArray} (h : s.size = 0) : s.toList = [] := by
  rw [ByteArray.toList_eq]
  apply List.eq_nil_of_length_eq_zero
  simpa using h
theorem isEmpty_no {s : ByteArray} (h : 0 < s.size) : s.toList.isEmpty = false := by
  rw [ByteArray.toList_eq]
  cases e : s.data.toList with
  | nil =>
    have : s.data.toList.length = 0 := by rw [e]; rfl
    have h2 : s.data.toList.length = s.size := by simp
    omega
  | cons a l => rfl

theorem of_short (s : ByteArray) (w : World) (h : s.size = 0 ∨ 8 < s.size) (hs : s.size ≤ maxLen) : Calls Tryz.prog 41 #[.string s] w (OfNo w) := by
  unfold maxLen at hs
  rcases h with h | h
  · have hs0 : s.toList = [] := toList_nil h
    have hs1 : s.toList.isEmpty = true := by rw [hs0]; rfl
    go_enter Tryz.func41, Tryz.ntmps41
    go_wp2
    go_ret2
    exact ⟨rfl, Below.refl _ _⟩
  · have hs1 : s.toList.isEmpty = false := isEmpty_no (by omega)
    have hs2 : decide ((8 : Int) < s.size) = true := by simp; omega
    go_enter Tryz.func41, Tryz.ntmps41
    go_wp2
    go_ret2
    exact ⟨rfl, Below.refl _ _⟩

theorem letter_iff (b : UInt8) : letter b = true ↔ 97 ≤ b.toNat ∧ b.toNat ≤ 122 := by simp [letter]

theorem of_yes (s : ByteArray) (w : World) (h : keyB s.data.toList = true) : Calls Tryz.prog 41 #[.string s] w (OfYes (shardOf s.data.toList) w) := by
  simp only [keyB, Bool.and_eq_true, decide_eq_true_eq, List.all_eq_true, letter_iff] at h
  obtain ⟨h0, h8, hl⟩ := h
  have h0 : 0 < s.size := by simpa using h0
  have h8 : s.size ≤ 8 := by simpa using h8
  have hs1 : s.toList.isEmpty = false := isEmpty_no h0
  have hs2 : decide ((8 : Int) < s.size) = false := by simp; omega
  have HL := Lib.hid hl
  clear hl
  go_enter Tryz.func41, Tryz.ntmps41
  go_wp2
  go_loopw [5] (fun _ w' => ∃ pos, pos ≤ s.size ∧ w' = w.iter s pos) (fun _ w' => s.size - w'.iterPos w.heap.size)
  case atStart => exact ⟨0, Nat.zero_le _, rfl⟩
  case round =>
    obtain ⟨pos, hle, rfl⟩ := hrel
    by_cases hp : pos < s.size
    · have hlt := HL.out s[pos] (by simp [ByteArray.getElem_eq_getElem_data])
      have ha : (s[pos]'hp).toNat < 128 := by omega
      have g1 : decide (((s[pos]'hp).toNat : Int) < 97) = false := by simp; omega
      have g2 : decide ((122 : Int) < ((s[pos]'hp).toNat : Int)) = false := by simp; omega
      have hnx : ∀ ty, (Instr.next (.pointer (some ⟨w.heap.size, 0, none⟩)) true ty).run Tryz.prog (w.iter s pos) = _ := fun ty => run_next_ascii w s pos ty hp ha
      go_wp2
      go_roundw
      case rel => exact ⟨pos + 1, by omega, rfl⟩
      case measure => simp; omega
    · have hnx : ∀ ty, (Instr.next (.pointer (some ⟨w.heap.size, 0, none⟩)) true ty).run Tryz.prog (w.iter s pos) = _ := fun ty => run_next_end w s pos ty hp
      have hh : shardOf s.data.toList = shd (s[0]'h0).toNat := by
        unfold shardOf
        cases e : s.data.toList with
        | nil => have : s.data.toList.length = s.size := by simp
                 rw [e] at this; simp at this; omega
        | cons a l =>
          have : s[0] = a := by
            have h1 : s[0] = s.data.toList[0]'(by simpa using h0) := by simp [ByteArray.getElem_eq_getElem_data]
            rw [h1]; simp [e]
          rw [this]; rfl
      have HH := Lib.hid hh
      clear hh
      have he : Below w.heap.size w (w.iter s pos) := (Below.refl _ _).alloc (Nat.le_refl _) _
      go_wp2
      all_goals
        go_ret2
        refine ⟨?_, he⟩
        rw [HH.out]
        unfold shd
      · rw [if_pos (by omega)]; rfl
      · rw [if_neg (by omega), if_pos (by omega)]; rfl
      · rw [if_neg (by omega), if_neg (by omega), if_pos (by omega)]; rfl
      · rw [if_neg (by omega), if_neg (by omega), if_neg (by omega)]; rfl

theorem of_bad (s : ByteArray) (w : World) (h0 : 0 < s.size) (h8 : s.size ≤ 8) (hl : ¬ s.data.toList.all letter = true) : Calls Tryz.prog 41 #[.string s] w (OfNo w) := by
  have hs1 : s.toList.isEmpty = false := isEmpty_no h0
  have hs2 : decide ((8 : Int) < s.size) = false := by simp; omega
  have HL := Lib.hid hl
  clear hl
  go_enter Tryz.func41, Tryz.ntmps41
  go_wp2
  go_loopw [5] (fun _ w' => ∃ pos, pos ≤ s.size ∧ w' = w.iter s pos ∧ (s.data.toList.take pos).all letter = true) (fun _ w' => s.size - w'.iterPos w.heap.size)
  case atStart => exact ⟨0, Nat.zero_le _, rfl, by simp⟩
  case round =>
    obtain ⟨pos, hle, rfl, hall⟩ := hrel
    have HA := Lib.hid hall
    clear hall
    by_cases hp : pos < s.size
    · have he : Below w.heap.size w (w.iter s (pos + (Utf8.decode s pos).2)) := (Below.refl _ _).alloc (Nat.le_refl _) _
      by_cases ha : (s[pos]'hp).toNat < 128
      · have hnx : ∀ ty, (Instr.next (.pointer (some ⟨w.heap.size, 0, none⟩)) true ty).run Tryz.prog (w.iter s pos) = _ := fun ty => run_next_ascii w s pos ty hp ha
        have he : Below w.heap.size w (w.iter s (pos + 1)) := (Below.refl _ _).alloc (Nat.le_refl _) _
        by_cases h1 : (s[pos]'hp).toNat < 97
        · have g1 : decide (((s[pos]'hp).toNat : Int) < 97) = true := by simp; omega
          go_wp2
          go_ret2
          exact ⟨rfl, he⟩
        · have g1 : decide (((s[pos]'hp).toNat : Int) < 97) = false := by simp; omega
          by_cases h2 : 122 < (s[pos]'hp).toNat
          · have g2 : decide ((122 : Int) < ((s[pos]'hp).toNat : Int)) = true := by simp; omega
            go_wp2
            go_ret2
            exact ⟨rfl, he⟩
          · have g2 : decide ((122 : Int) < ((s[pos]'hp).toNat : Int)) = false := by simp; omega
            have hlt : letter s[pos] = true := by simp [letter]; omega
            have hn : (s.data.toList.take (pos + 1)).all letter = true := by rw [all_take_succ s pos hp, HA.out, hlt]; rfl
            have HN := Lib.hid hn
            clear hn hlt
            go_wp2
            go_roundw
            case rel => exact ⟨pos + 1, by omega, rfl, HN.out⟩
            case measure => simp; omega
      · have hdh := decode_high s pos hp (by omega)
        have hnx : ∀ ty, (Instr.next (.pointer (some ⟨w.heap.size, 0, none⟩)) true ty).run Tryz.prog (w.iter s pos) = _ := fun ty => run_next_any w s pos ty hp
        have g1 : decide (((Utf8.decode s pos).1 : Int) < 97) = false := by simp; omega
        have g2 : decide ((122 : Int) < ((Utf8.decode s pos).1 : Int)) = true := by simp; omega
        go_wp2
        go_ret2
        exact ⟨rfl, he⟩
    · exact absurd (by have e := HA.out; rwa [List.take_of_length_le (by simp; omega)] at e) HL.out
theorem of_no (s : ByteArray) (w : World) (h : keyB s.data.toList = false) (hs : s.size ≤ maxLen) : Calls Tryz.prog 41 #[.string s] w (OfNo w) := by
  by_cases h0 : s.size = 0 ∨ 8 < s.size
  · exact of_short s w h0 hs
  · refine of_bad s w (by omega) (by omega) fun hl => ?_
    have : keyB s.data.toList = true := by
      simp only [keyB, Bool.and_eq_true, decide_eq_true_eq]
      exact ⟨by simp; omega, by simp; omega, hl⟩
    rw [h] at this; cases this
end Go.Proofs.YtkpekiajdlolnabGreat

/-
  CONTRACTS (lone), second text: a shard's map: Len, Get, Do.
-/
namespace Go.Proofs.YtkpekiajdlolnabGreat
open Go.RowKit Go.Maps

abbrev Bs := List UInt8
abbrev KV := List (Bs × Bs)
def sv (l : Bs) : Value := .string ⟨l.toArray⟩
/-- how an element of the map reads: a struct of one string. -/
def Rv : Value → Option (DataW Unit × List MemPlace)
  | .agg cs => match cs.toList with
    | [.string s] => some (.agg [.lit (.string s.data.toList)], [])
    | _ => none
  | _ => none
def ev (v : Bs) : DataW Unit := .agg [.lit (.string v)]
def DM (L : KV) : DataW Unit := .map (L.map fun p => (.string p.1, ev p.2))
/-- block mb holds the pairs L, rising. -/
def MapKV (w : World) (mb : Nat) (L : KV) : Prop := w.ownsMap Tryz.prog 9 Rv mb L.length (DM L)
theorem Rv_inv {v : Value} {b : Bs} {ps : List MemPlace} (h : Rv v = some (ev b, ps)) : v = .agg #[sv b] := by
  cases v with
  | agg cs =>
    obtain ⟨l⟩ := cs
    simp only [Rv] at h
    split at h
    · rename_i s
      simp only [Option.some.injEq, Prod.mk.injEq, ev] at h
      obtain ⟨h1, _⟩ := h
      injection h1 with h1
      injection h1 with h1 _
      injection h1 with h1
      injection h1 with h1
      subst h1
      rfl
    · cases h
  | _ => cases h
def kvFind (L : KV) (k : Bs) : Option Bs := (L.find? (fun p => p.1 == k)).map (·.2)

theorem find_DM (L : KV) (k : Bs) : (L.map fun p => ((Lit.string p.1 : Lit), ev p.2)).find? (fun p => p.1.sameKey (.string k)) = (L.find? (fun p => p.1 == k)).map fun p => (.string p.1, ev p.2) := by
  induction L with
  | nil => rfl
  | cons p L ih =>
    rw [List.map_cons, List.find?_cons, List.find?_cons, ih]
    have : ((Lit.string p.1).sameKey (.string k)) = (p.1 == k) := rfl
    rw [this]
    cases p.1 == k <;> rfl
theorem atKey_DM (L : KV) (k : Bs) (z : DataW Unit) : (DM L).atKey (.string k) z = match kvFind L k with | some v => ev v | none => z := by
  unfold DM DataW.atKey kvFind
  dsimp only
  rw [find_DM]
  cases L.find? (fun p => p.1 == k) <;> rfl
theorem has_DM (L : KV) (k : Bs) : Maps.has (DM L) (.string k) = (kvFind L k).isSome := by
  unfold DM kvFind
  rw [Maps.has_eq, Option.isSome_map, List.any_map]
  induction L with
  | nil => rfl
  | cons p L ih =>
    rw [List.any_cons, List.find?_cons, ih]
    have e : ((fun p : Lit × DataW Unit => p.1.sameKey (.string k)) ∘ fun p : Bs × Bs => ((Lit.string p.1 : Lit), ev p.2)) p = (p.1 == k) := rfl
    rw [e]
    cases p.1 == k <;> rfl
theorem size_DM (L : KV) : Maps.size (DM L) = L.length := by simp [DM, Maps.size]

theorem MapKV.of {w : World} {mb n : Nat} {L : KV} (h : w.ownsMap Tryz.prog 9 Rv mb n (DM L)) : MapKV w mb L := by
  obtain ⟨es, clock, hb, F, hs, hD⟩ := h
  refine ⟨es, clock, hb, F, ?_, hD⟩
  have h1 : Maps.size (DM L) = es.size := by rw [hD]; simp [Maps.size, length_sorted]
  rw [size_DM] at h1
  omega
theorem MapKV.block {w w' : World} {mb : Nat} {L : KV} (h : MapKV w mb L) (k : w'.heap[mb]? = w.heap[mb]?) : MapKV w' mb L := by
  obtain ⟨es, clock, hb, F⟩ := h
  exact ⟨es, clock, k.trans hb, F⟩
theorem zeroVal (w : World) : (zeroValue 146).run Tryz.prog w = .ok (.agg #[.string ⟨#[]⟩]) w := by kernel_rfl
theorem keyStr (s : ByteArray) (hs : s.size ≤ maxLen) : keyOf Tryz.prog 9 (.string s) = some (.string s.data.toList) := WideMaps.keyOf_string_mk Tryz.underlying9 hs

section
variable {w : World} {db mb : Nat} {L : KV}
theorem len_c (hd : w.cell? ⟨db, 0, none⟩ = some (.map (some mb))) (hm : MapKV w mb L) : Calls Tryz.prog 68 #[.pointer (some ⟨db, 0, none⟩)] w fun e w' => e = .returned (.int .i64 L.length) ∧ w' = w := by
  have hown := hm
  have hlen := fun ty => hown.len Tryz.underlying140 ty
  rw [size_DM] at hlen
  clear hown hm
  go_enter Tryz.func68, Tryz.ntmps68
  go_wp2
  go_ret
  exact ⟨rfl, rfl⟩
theorem get_run (hm : MapKV w mb L) (s : ByteArray) (hs : s.size ≤ maxLen) : (Instr.lookup 140 (.map (some mb)) (.string s) true).run Tryz.prog w = .ok (.tuple #[.agg #[sv ((kvFind L s.data.toList).getD [])], .bool (kvFind L s.data.toList).isSome]) w := by
  have hown := hm
  obtain ⟨v, ps, hrun, hv⟩ := hown.look_ok (string_keyed Tryz.underlying9) Tryz.underlying140 (zeroVal w) (zd := ev []) (zp := []) rfl (keyStr s hs)
  rw [has_DM] at hrun
  rw [atKey_DM] at hv
  have : Rv v = some (ev ((kvFind L s.data.toList).getD []), ps) := by
    rw [hv]
    cases kvFind L s.data.toList <;> rfl
  rw [hrun, Rv_inv this]
def GetPost (w : World) (x : Option Bs) (e : Ending) (w' : World) : Prop := e = .returned (.tuple #[sv (x.getD []), .bool x.isSome]) ∧ Below w.heap.size w w'
theorem get_c (hd : w.cell? ⟨db, 0, none⟩ = some (.map (some mb))) (hm : MapKV w mb L) (s : ByteArray) (hs : s.size ≤ maxLen) : Calls Tryz.prog 42 #[.pointer (some ⟨db, 0, none⟩), .string s] w (GetPost w (kvFind L s.data.toList)) := by
  have hg := get_run hm s hs
  clear hm
  unfold GetPost
  generalize kvFind L s.data.toList = x at *
  unfold sv at *
  generalize (⟨(x.getD []).toArray⟩ : ByteArray) = bs at *
  go_enter Tryz.func42, Tryz.ntmps42
  go_wp2
  go_ret2
  exact ⟨rfl, (Below.refl _ _).alloc (Nat.le_refl _) _⟩
end
end Go.Proofs.YtkpekiajdlolnabGreat

/-
  CONTRACTS (lone), third text: a shard's map: Do.
-/
namespace Go.Proofs.YtkpekiajdlolnabGreat
open Go.RowKit Go.Maps

/-- w' is w but for the blocks of B, and new ones. -/
structure But (B : Nat → Prop) (w w' : World) : Prop where
  size : w.heap.size ≤ w'.heap.size
  keep : ∀ k, k < w.heap.size → ¬ B k → w'.heap[k]? = w.heap[k]?
  os : w'.os = w.os
  output : w'.output = w.output
theorem But.refl (B : Nat → Prop) (w : World) : But B w w := ⟨Nat.le_refl _, fun _ _ _ => rfl, rfl, rfl⟩
theorem But.trans {B : Nat → Prop} {a b c : World} (h : But B a b) (k : But B b c) : But B a c :=
  ⟨Nat.le_trans h.size k.size, fun i hi hb => (k.keep i (Nat.lt_of_lt_of_le hi h.size) hb).trans (h.keep i hi hb), k.os.trans h.os, k.output.trans h.output⟩
theorem But.mono {B B' : Nat → Prop} {w w' : World} (h : But B w w') (k : ∀ b, B b → B' b) : But B' w w' := ⟨h.size, fun i hi hb => h.keep i hi fun x => hb (k i x), h.os, h.output⟩
theorem But.drew {B : Nat → Prop} {w w' : World} (h : But B w w') : But B w w'.drew := ⟨h.size, h.keep, h.os, h.output⟩
theorem But.of_below {B : Nat → Prop} {w w' : World} (h : Below w.heap.size w w') : But B w w' := ⟨h.size, fun i hi _ => h.block i hi, h.os, h.output⟩

def ins (k v : Bs) : KV → KV
  | [] => [(k, v)]
  | p :: L => if bytesBefore k p.1 then (k, v) :: p :: L else p :: ins k v L
def kvPut (L : KV) (k v : Bs) : KV := ins k v (L.filter fun p => !(p.1 == k))
def kvDel (L : KV) (k : Bs) : KV := L.filter fun p => !(p.1 == k)
theorem filter_DM (L : KV) (k : Bs) : ((L.map fun p => ((Lit.string p.1 : Lit), ev p.2)).filter fun p => !p.1.sameKey (.string k)) = (kvDel L k).map fun p => (.string p.1, ev p.2) := by
  induction L with
  | nil => rfl
  | cons p L ih =>
    have e : ((Lit.string p.1).sameKey (.string k)) = (p.1 == k) := rfl
    rw [List.map_cons, List.filter_cons, ih]
    unfold kvDel
    rw [List.filter_cons]
    rw [e]
    cases p.1 == k <;> rfl
theorem del_DM (L : KV) (k : Bs) : (DM L).del (.string k) = DM (kvDel L k) := by
  unfold DM DataW.del
  dsimp only
  rw [filter_DM]
theorem insert_DM (L : KV) (k v : Bs) : DataW.insert ((Lit.string k : Lit), ev v) (L.map fun p => ((Lit.string p.1 : Lit), ev p.2)) = (ins k v L).map fun p => (.string p.1, ev p.2) := by
  induction L with
  | nil => rfl
  | cons p L ih =>
    rw [List.map_cons]
    unfold DataW.insert ins
    have e : ((Lit.string k).before (Lit.string p.1)) = bytesBefore k p.1 := rfl
    rw [e]
    cases bytesBefore k p.1
    · simp [ih]
    · rfl
theorem put_DM (L : KV) (k v : Bs) : (DM L).put (.string k) (ev v) = DM (kvPut L k v) := by
  unfold DM DataW.put
  dsimp only
  rw [filter_DM, insert_DM]
  rfl

section
variable {w : World} {db mb : Nat} {L : KV}
theorem put_run (hm : MapKV w mb L) (hL : L.length < 1073741823) (k v : ByteArray) (hk : k.size ≤ maxLen) :
    ∃ w', (Instr.mapUpdate 140 (.map (some mb)) (.string k) (.agg #[.string v])).run Tryz.prog w = .ok () w' ∧ MapKV w' mb (kvPut L k.data.toList v.data.toList) ∧ But (· = mb) w w' := by
  have h1 : Rv (.agg #[.string v]) = some (ev v.data.toList, []) := rfl
  obtain ⟨w', hrun, ho, hg⟩ := World.ownsMap.update hm (string_keyed Tryz.underlying9) Tryz.underlying140 (by unfold maxLen; omega) (keyStr k hk) h1
  rw [put_DM] at ho
  exact ⟨w', hrun, .of ho, ⟨hg.size, fun i hi hb => hg.block i hi (by simpa using hb), hg.os, hg.output⟩⟩
theorem del_run (hm : MapKV w mb L) (k : ByteArray) (hk : k.size ≤ maxLen) (ty : TypeId) :
    ∃ w', (Builtin.delete_ #[140, 9] ty #[.map (some mb), .string k]).run Tryz.prog w = .ok (.tuple #[]) w' ∧ MapKV w' mb (kvDel L k.data.toList) ∧ But (· = mb) w w' := by
  obtain ⟨w', hrun, ho, ⟨es, ck, es', ck', hb, rfl⟩⟩ := World.ownsMap.drop hm (string_keyed Tryz.underlying9) Tryz.underlying140 (keyStr k hk) ty
  rw [del_DM] at ho
  exact ⟨_, hrun, .of ho, ⟨by simp [ChangeMaps.setBlock], fun i hi hn => ChangeMaps.heap_setBlock_other hb _ hn, rfl, rfl⟩⟩

def DoPost (w : World) (mb : Nat) (L : KV) (e : Ending) (w' : World) : Prop := e = .returned (.tuple #[]) ∧ MapKV w' mb L ∧ But (· = mb) w w'
set_option maxRecDepth 100000 in
theorem do_put (hd : w.cell? ⟨db, 0, none⟩ = some (.map (some mb))) (hm : MapKV w mb L) (hL : L.length < 1073741823) (k v : ByteArray) (hk : k.size ≤ maxLen) :
    Calls Tryz.prog 69 #[.pointer (some ⟨db, 0, none⟩), .agg #[.string k, .string v, .bool false]] w (DoPost w mb (kvPut L k.data.toList v.data.toList)) := by
  go_enter Tryz.func69, Tryz.ntmps69
  go_wp2
  have hlt : db < w.heap.size := World.block_lt_of_cell? w ⟨db, 0, none⟩ hd
  have c0 : (w.alloc (.cells #[.string k, .string v, .bool false] 87)).cell? ⟨w.heap.size, 0, none⟩ = some (.string k) := by go_simp
  have c1 : (w.alloc (.cells #[.string k, .string v, .bool false] 87)).cell? ⟨w.heap.size, 1, none⟩ = some (.string v) := by go_simp
  have cd : (w.alloc (.cells #[.string k, .string v, .bool false] 87)).cell? ⟨db, 0, none⟩ = some (.map (some mb)) := (World.cell?_of_block (heap_alloc_old w _ hlt)).trans hd
  have hB : But (· = mb) w (w.alloc (.cells #[.string k, .string v, .bool false] 87)) := .of_below ((Below.refl _ _).alloc (Nat.le_refl _) _)
  have hmlt := hm.lt
  have hm1 : MapKV (w.alloc (.cells #[.string k, .string v, .bool false] 87)) mb L := hm.block (heap_alloc_old w _ hmlt)
  generalize w.alloc (.cells #[.string k, .string v, .bool false] 87) = W at *
  obtain ⟨w2, hrun, hm2, hB2⟩ := put_run (w := W.drew) (hm1.block rfl) hL k v hk
  refine wp_region_still_tail 11 (by kernel_rfl) (by kernel_rfl) ?_
  change wpStill _ _ W.drew (fun a' => wpList _ _ _ _ a' W.drew) _ _
  simp only [List.take_succ_cons, List.take_zero, List.drop_succ_cons, List.drop_zero]
  repeat still_step
  refine wpStill_nil ?_
  go_wp2
  go_end0
  exact ⟨rfl, hm2, hB.drew.trans hB2⟩
set_option maxRecDepth 100000 in
theorem do_del (hd : w.cell? ⟨db, 0, none⟩ = some (.map (some mb))) (hm : MapKV w mb L) (k v : ByteArray) (hk : k.size ≤ maxLen) :
    Calls Tryz.prog 69 #[.pointer (some ⟨db, 0, none⟩), .agg #[.string k, .string v, .bool true]] w (DoPost w mb (kvDel L k.data.toList)) := by
  go_enter Tryz.func69, Tryz.ntmps69
  go_wp2
  have hlt : db < w.heap.size := World.block_lt_of_cell? w ⟨db, 0, none⟩ hd
  have c0 : (w.alloc (.cells #[.string k, .string v, .bool true] 87)).cell? ⟨w.heap.size, 0, none⟩ = some (.string k) := by go_simp
  have cd : (w.alloc (.cells #[.string k, .string v, .bool true] 87)).cell? ⟨db, 0, none⟩ = some (.map (some mb)) := (World.cell?_of_block (heap_alloc_old w _ hlt)).trans hd
  have hB : But (· = mb) w (w.alloc (.cells #[.string k, .string v, .bool true] 87)) := .of_below ((Below.refl _ _).alloc (Nat.le_refl _) _)
  have hmlt := hm.lt
  have hm1 : MapKV (w.alloc (.cells #[.string k, .string v, .bool true] 87)) mb L := hm.block (heap_alloc_old w _ hmlt)
  generalize w.alloc (.cells #[.string k, .string v, .bool true] 87) = W at *
  obtain ⟨w2, hrun, hm2, hB2⟩ := del_run (w := W.drew) (hm1.block rfl) k hk 0
  refine wp_region_still_tail 7 (by kernel_rfl) (by kernel_rfl) ?_
  change wpStill _ _ W.drew (fun a' => wpList _ _ _ _ a' W.drew) _ _
  simp only [List.take_succ_cons, List.take_zero, List.drop_succ_cons, List.drop_zero]
  repeat still_step
  refine wpStill_nil ?_
  go_wp2
  go_end0
  exact ⟨rfl, hm2, hB.drew.trans hB2⟩
end
end Go.Proofs.YtkpekiajdlolnabGreat

/-
  THE PLAIN LAWS, first text: lists of pairs that rise.
-/
namespace Go.Proofs.YtkpekiajdlolnabGreat
theorem bb_irrefl : ∀ a : Bs, bytesBefore a a = false
  | [] => rfl
  | x :: r => by simp [bytesBefore, bb_irrefl r]
theorem bb_trans : ∀ {a b c : Bs}, bytesBefore a b = true → bytesBefore b c = true → bytesBefore a c = true
  | [], [], [], h, _ => h
  | [], _ :: _, [], _, h => by simp [bytesBefore] at h
  | [], _, _ :: _, _, _ => rfl
  | _ :: _, [], _, h, _ => by simp [bytesBefore] at h
  | _ :: _, _ :: _, [], _, h => by simp [bytesBefore] at h
  | x :: r, y :: s, z :: t, h, k => by
    simp only [bytesBefore, Bool.or_eq_true, decide_eq_true_eq, Bool.and_eq_true, beq_iff_eq] at *
    rcases h with h | ⟨h, h2⟩ <;> rcases k with k | ⟨k, k2⟩
    · exact .inl (UInt8.lt_trans h k)
    · subst k; exact .inl h
    · subst h; exact .inl k
    · subst h; subst k; exact .inr ⟨rfl, bb_trans h2 k2⟩
theorem bb_total : ∀ a b : Bs, bytesBefore a b = true ∨ a = b ∨ bytesBefore b a = true
  | [], [] => .inr (.inl rfl)
  | [], _ :: _ => .inl rfl
  | _ :: _, [] => .inr (.inr rfl)
  | x :: r, y :: s => by
    simp only [bytesBefore, Bool.or_eq_true, decide_eq_true_eq, Bool.and_eq_true, beq_iff_eq, List.cons.injEq]
    rcases UInt8.lt_or_eq_of_le (UInt8.le_refl x) with h | h
    · exact absurd h (UInt8.lt_irrefl x)
    · rcases UInt8.le_total x y with h1 | h1
      · rcases UInt8.lt_or_eq_of_le h1 with h2 | h2
        · exact .inl (.inl h2)
        · subst h2
          rcases bb_total r s with h3 | h3 | h3
          · exact .inl (.inr ⟨rfl, h3⟩)
          · exact .inr (.inl ⟨rfl, h3⟩)
          · exact .inr (.inr (.inr ⟨rfl, h3⟩))
      · rcases UInt8.lt_or_eq_of_le h1 with h2 | h2
        · exact .inr (.inr (.inl h2))
        · subst h2
          rcases bb_total r s with h3 | h3 | h3
          · exact .inl (.inr ⟨rfl, h3⟩)
          · exact .inr (.inl ⟨rfl, h3⟩)
          · exact .inr (.inr (.inr ⟨rfl, h3⟩))
theorem bb_asymm {a b : Bs} (h : bytesBefore a b = true) : bytesBefore b a = false := by
  cases e : bytesBefore b a with
  | false => rfl
  | true => have := bb_trans h e; rw [bb_irrefl] at this; cases this
theorem bb_ne {a b : Bs} (h : bytesBefore a b = true) : (a == b) = false := by
  rw [beq_eq_false_iff_ne]; rintro rfl; rw [bb_irrefl] at h; cases h
theorem bb_ne' {a b : Bs} (h : bytesBefore a b = true) : (b == a) = false := by
  rw [beq_eq_false_iff_ne]; rintro rfl; rw [bb_irrefl] at h; cases h

def Rising (L : KV) : Prop := L.Pairwise fun a b => bytesBefore a.1 b.1 = true
/-- the place of a key, or where it would be. -/
def atIx : KV → Bs → Nat
  | [], _ => 0
  | p :: L, k => if bytesBefore p.1 k then atIx L k + 1 else 0
def atHas : KV → Bs → Bool
  | [], _ => false
  | p :: L, k => if bytesBefore p.1 k then atHas L k else p.1 == k
/-- pairs with a change done. -/
def kvDone (L : KV) (k v : Bs) (g : Bool) : KV := L.take (atIx L k) ++ (if g then [] else [(k, v)]) ++ L.drop (if atHas L k then atIx L k + 1 else atIx L k)
theorem above_none {L : KV} {k : Bs} (h : ∀ p ∈ L, bytesBefore k p.1 = true) : kvFind L k = none ∧ kvDel L k = L := by
  constructor
  · unfold kvFind
    rw [Option.map_eq_none_iff, List.find?_eq_none]
    intro p hp
    rw [bb_ne' (h p hp)]; simp
  · unfold kvDel
    rw [List.filter_eq_self]
    intro p hp
    rw [bb_ne' (h p hp)]; rfl
theorem ins_above {L : KV} {k v : Bs} (h : ∀ p ∈ L, bytesBefore k p.1 = true) : ins k v L = (k, v) :: L := by
  cases L with
  | nil => rfl
  | cons p L => simp [ins, h p (.head _)]
theorem kvPut_cons_lt {p : Bs × Bs} {L : KV} {k v : Bs} (h : bytesBefore p.1 k = true) : kvPut (p :: L) k v = p :: kvPut L k v := by
  simp [kvPut, bb_ne h, ins, bb_asymm h]
theorem kvDel_cons_lt {p : Bs × Bs} {L : KV} {k : Bs} (h : bytesBefore p.1 k = true) : kvDel (p :: L) k = p :: kvDel L k := by
  simp [kvDel, bb_ne h]
theorem kvFind_cons_lt {p : Bs × Bs} {L : KV} {k : Bs} (h : bytesBefore p.1 k = true) : kvFind (p :: L) k = kvFind L k := by
  simp [kvFind, bb_ne h]
/-- what 'at' finds. -/
theorem at_spec : ∀ {L : KV} (_ : Rising L) (k : Bs), atIx L k ≤ L.length ∧ atHas L k = (kvFind L k).isSome ∧ (∀ v, kvFind L k = some v → L[atIx L k]? = some (k, v)) ∧ (∀ v, kvDone L k v true = kvDel L k) ∧ (∀ v, kvDone L k v false = kvPut L k v)
  | [], _, k => ⟨Nat.le_refl _, rfl, fun v h => by simp [kvFind] at h, fun v => rfl, fun v => rfl⟩
  | p :: L, hr, k => by
    obtain ⟨hp, hL⟩ := List.pairwise_cons.1 hr
    obtain ⟨i1, i2, i3, i4, i5⟩ := at_spec hL k
    unfold kvDone at i4 i5 ⊢
    unfold atIx atHas
    rcases bb_total p.1 k with h | h | h
    · simp only [h, if_true]
      refine ⟨by simp; omega, by rw [kvFind_cons_lt h]; exact i2, fun v hv => by rw [kvFind_cons_lt h] at hv; simpa using i3 v hv, fun v => ?_, fun v => ?_⟩
      · rw [kvDel_cons_lt h, ← i4 v]
        cases atHas L k <;> simp
      · rw [kvPut_cons_lt h, ← i5 v]
        cases atHas L k <;> simp
    · obtain ⟨pk, pv⟩ := p
      obtain rfl : pk = k := h
      obtain ⟨a1, a2⟩ := above_none hp
      rw [bb_irrefl]
      simp only [Bool.false_eq_true, if_false, beq_self_eq_true, if_true]
      refine ⟨Nat.zero_le _, by simp [kvFind], fun v hv => by simp [kvFind] at hv; simp [hv], fun v => ?_, fun v => ?_⟩
      · unfold kvDel at a2 ⊢
        simp [a2]
      · unfold kvDel at a2
        unfold kvPut
        simp [a2, ins_above hp]
    · have hall : ∀ q ∈ p :: L, bytesBefore k q.1 = true := fun q hq => by
        rcases List.mem_cons.1 hq with rfl | hq
        · exact h
        · exact bb_trans h (hp q hq)
      obtain ⟨a1, a2⟩ := above_none hall
      simp only [bb_asymm h, Bool.false_eq_true, if_false]
      refine ⟨Nat.zero_le _, (by rw [a1, bb_ne' h]; rfl), fun v hv => (by rw [a1] at hv; cases hv), fun v => (by rw [a2, bb_ne' h]; simp), fun v => ?_⟩
      rw [bb_ne' h]
      unfold kvPut
      have a2' := a2
      unfold kvDel at a2'
      rw [a2', ins_above hall]
      simp
theorem mem_ins {k v : Bs} {q : Bs × Bs} : ∀ {L : KV}, q ∈ ins k v L → q = (k, v) ∨ q ∈ L
  | [], h => by simp [ins] at h; exact .inl h
  | p :: L, h => by
    unfold ins at h
    split at h
    · rcases List.mem_cons.1 h with h | h
      · exact .inl h
      · exact .inr h
    · rcases List.mem_cons.1 h with h | h
      · exact .inr (h ▸ .head _)
      · rcases mem_ins h with h | h
        · exact .inl h
        · exact .inr (.tail _ h)
theorem rising_ins {k v : Bs} : ∀ {L : KV}, Rising L → (∀ p ∈ L, (p.1 == k) = false) → Rising (ins k v L)
  | [], _, _ => by simp [ins, Rising]
  | p :: L, hr, hn => by
    obtain ⟨hp, hL⟩ := List.pairwise_cons.1 hr
    unfold ins
    split
    · rename_i h
      exact List.pairwise_cons.2 ⟨fun q hq => by
        rcases List.mem_cons.1 hq with rfl | hq
        · exact h
        · exact bb_trans h (hp q hq), hr⟩
    · rename_i h
      refine List.pairwise_cons.2 ⟨fun q hq => ?_, rising_ins hL fun q hq => hn q (.tail _ hq)⟩
      rcases mem_ins hq with rfl | hq
      · rcases bb_total p.1 k with h1 | h1 | h1
        · exact h1
        · have := hn p (.head _); rw [h1] at this; simp at this
        · exact absurd h1 h
      · exact hp q hq
theorem rising_del {L : KV} (h : Rising L) (k : Bs) : Rising (kvDel L k) := h.filter _
theorem rising_put {L : KV} (h : Rising L) (k v : Bs) : Rising (kvPut L k v) := rising_ins (rising_del h k) fun p hp => by
  have := (List.mem_filter.1 hp).2
  simpa using this
theorem length_ins (k v : Bs) : ∀ L : KV, (ins k v L).length = L.length + 1
  | [] => rfl
  | p :: L => by
    unfold ins
    split
    · rfl
    · simp [length_ins k v L]
theorem del_le (L : KV) (k : Bs) : (kvDel L k).length ≤ L.length := List.length_filter_le _ _
theorem put_le (L : KV) (k v : Bs) : (kvPut L k v).length ≤ L.length + 1 := by
  unfold kvPut
  rw [length_ins]
  have := del_le L k
  unfold kvDel at this
  omega
theorem put_has {L : KV} {k v : Bs} (h : (kvFind L k).isSome = true) : (kvPut L k v).length ≤ L.length := by
  unfold kvPut
  rw [length_ins]
  have : (L.filter fun p => !(p.1 == k)).length < L.length := by
    unfold kvFind at h
    rw [Option.isSome_map, List.find?_isSome] at h
    obtain ⟨p, hp, h2⟩ := h
    exact List.length_filter_lt_length_iff_exists.2 ⟨p, hp, by simpa using h2⟩
  omega
theorem mem_put {L : KV} {k v : Bs} {q : Bs × Bs} (h : q ∈ kvPut L k v) : q = (k, v) ∨ q ∈ L := by
  rcases mem_ins h with h | h
  · exact .inl h
  · exact .inr (List.mem_filter.1 h).1
theorem mem_del {L : KV} {k : Bs} {q : Bs × Bs} (h : q ∈ kvDel L k) : q ∈ L := (List.mem_filter.1 h).1
/-- is a pair asked for? -/
def inB (s t : Bs) (p : Bs × Bs) : Bool := !bytesBefore p.1 s && (t.isEmpty || bytesBefore p.1 t)
end Go.Proofs.YtkpekiajdlolnabGreat

/-
  ROWS OF PAIRS: what is appended to them; all their cells are strings, the spare ones too.
-/
namespace Go.Proofs.YtkpekiajdlolnabGreat
open Go.RowKit Go.Maps

def flat (L : KV) : List Value := L.flatMap fun p => [sv p.1, sv p.2]
theorem flat_nil : flat [] = [] := rfl
theorem flat_cons (p : Bs × Bs) (L : KV) : flat (p :: L) = sv p.1 :: sv p.2 :: flat L := rfl
theorem flat_append (A B : KV) : flat (A ++ B) = flat A ++ flat B := List.flatMap_append
theorem flat_length (L : KV) : (flat L).length = L.length * 2 := by
  induction L with
  | nil => rfl
  | cons p L ih => rw [flat_cons]; simp only [List.length_cons, ih]; omega
theorem flat_take : ∀ (L : KV) (k : Nat), (flat L).take (k * 2) = flat (L.take k)
  | [], k => by simp [flat_nil]
  | p :: L, 0 => by simp [flat_nil]
  | p :: L, k + 1 => by
    rw [flat_cons, List.take_succ_cons, flat_cons, show (k + 1) * 2 = k * 2 + 1 + 1 by omega, List.take_succ_cons, List.take_succ_cons, flat_take L k]
theorem flat_drop : ∀ (L : KV) (k : Nat), (flat L).drop (k * 2) = flat (L.drop k)
  | [], k => by simp [flat_nil]
  | p :: L, 0 => by simp
  | p :: L, k + 1 => by
    rw [flat_cons, List.drop_succ_cons, show (k + 1) * 2 = k * 2 + 1 + 1 by omega, List.drop_succ_cons, List.drop_succ_cons, flat_drop L k]
theorem flat_get : ∀ (L : KV) (k : Nat) (p : Bs × Bs), L[k]? = some p → (flat L)[k * 2]? = some (sv p.1) ∧ (flat L)[k * 2 + 1]? = some (sv p.2)
  | [], k, p, h => by simp at h
  | q :: L, 0, p, h => by simp at h; subst h; exact ⟨rfl, rfl⟩
  | q :: L, k + 1, p, h => by
    rw [flat_cons, show (k + 1) * 2 = k * 2 + 1 + 1 by omega]
    simpa using flat_get L k p (by simpa using h)
theorem flat_str {L : KV} {x : Value} (h : x ∈ flat L) : ∃ s, x = .string s := by
  obtain ⟨p, _, h⟩ := List.mem_flatMap.1 h
  rcases List.mem_cons.1 h with rfl | h
  · exact ⟨_, rfl⟩
  · rcases List.mem_cons.1 h with rfl | h
    · exact ⟨_, rfl⟩
    · cases h

/-- the block of a row holds strings alone. -/
def AllS (w : World) (v : Value) : Prop := ∀ g, v.ownBlock = some g → ∃ cur ty, w.heap[g]? = some (.cells cur ty (0, 0)) ∧ ∀ x ∈ cur.toList, ∃ s, x = .string s
theorem AllS.nil (w : World) : AllS w (.slice none 0 0) := fun g h => by cases h
theorem AllS.block {w w' : World} {v : Value} (h : AllS w v) (k : ∀ g, v.ownBlock = some g → w'.heap[g]? = w.heap[g]?) : AllS w' v := fun g hg =>
  let ⟨cur, ty, h1, h2⟩ := h g hg
  ⟨cur, ty, (k g hg).trans h1, h2⟩
theorem pairInfoL : ∃ i, Tryz.prog.info? 74 = some i ∧ i.zero = some (.agg #[.string ⟨#[]⟩, .string ⟨#[]⟩]) ∧ i.size = 2 ∧ i.bytes = 32 := by
  have h : (Tryz.prog.info? 74).map (fun i => (i.zero, i.size, i.bytes)) = some (some (.agg #[.string ⟨#[]⟩, .string ⟨#[]⟩]), 2, 32) := by kernel_rfl
  obtain ⟨i, h1, h2⟩ := Option.map_eq_some_iff.1 h
  injection h2 with h2 h3
  injection h3 with h3 h4
  exact ⟨i, h1, h2, h3, h4⟩
/-- what is appended: cells that are strings. -/
structure Src (w : World) (sa : Option Addr) (m : Nat) (news : List Value) : Prop where
  len : news.length = m * 2
  cell : ∀ ad, sa = some ad → ∀ j u, news[j]? = some u → w.cell? (ad.add j) = some u
  zero : sa = none → m = 0
  str : ∀ u ∈ news, ∃ s, u = .string s
theorem mem_zeroCells {z : Array Value} {n : Nat} {x : Value} (hz : 0 < z.size) (h : x ∈ (Builtin.zeroCells z n).toList) : x ∈ z.toList := by
  unfold Builtin.zeroCells at h
  simp only [Array.mem_toList_iff] at h ⊢
  rw [Array.mem_map] at h
  obtain ⟨i, _, rfl⟩ := h
  have : i % z.size < z.size := Nat.mod_lt _ hz
  rw [getElem!_pos z _ this]
  exact Array.getElem_mem this
section
variable {w : World} {base n m c : Nat} {v : Value} {xs news : List Value} {sa : Option Addr}
theorem run_app (ty : TypeId) (hown : w.ownsRow base 74 2 v n xs) (ha : AllS w v) (hs : Src w sa m news) (hb : n + m ≤ 1073741824) (hbase : base ≤ w.heap.size) :
    ∃ v' w', (Builtin.append_ #[47, 47] ty #[v, .slice sa m c]).run Tryz.prog w = .ok v' w' ∧ w'.ownsRow base 74 2 v' (n + m) (xs ++ news) ∧ AllS w' v' ∧ w.grownBy w' v.ownBlock := by
  obtain ⟨i, hi, hz, hsz, hby⟩ := pairInfoL
  have ht : Tryz.prog.underlying 47 = some (.slice 74) := Tryz.underlying47
  have hlen : (xs ++ news).length = (n + m) * 2 := by rw [List.length_append, hown.1, hs.len, Nat.add_mul]
  have hl : news.length = m * i.size := by rw [hsz]; exact hs.len
  have one : ∀ u ∈ news, u.oneCell' = true := fun u hu => by obtain ⟨s, rfl⟩ := hs.str u hu; rfl
  have hxs : ∀ x ∈ xs, ∃ s, x = .string s := fun x hx => by
    rcases hown.2 with ⟨_, rfl⟩ | ⟨g, cap, cur, rfl, _, hg, _, _, _, htake⟩
    · have : xs = [] := List.eq_nil_of_length_eq_zero (by simpa using hown.1)
      subst this; cases hx
    · obtain ⟨cur', ty', h1, h2⟩ := ha g rfl
      rw [hg] at h1
      cases h1
      rw [← htake] at hx
      exact h2 x (List.mem_of_mem_take hx)
  have grown : ∀ (old : Nat), old < n + m → ∀ (row : Option Nat),
      (w.drew.alloc (.cells (xs.toArray ++ news.toArray ++ Builtin.zeroCells (Value.agg #[.string ⟨#[]⟩, .string ⟨#[]⟩]).cells (grownCap w (n + m) old 74 - (n + m))) 74)).ownsRow base 74 2
        (.slice (some ⟨w.heap.size, 0, none⟩) (n + m) (grownCap w (n + m) old 74)) (n + m) (xs ++ news) ∧
      AllS (w.drew.alloc (.cells (xs.toArray ++ news.toArray ++ Builtin.zeroCells (Value.agg #[.string ⟨#[]⟩, .string ⟨#[]⟩]).cells (grownCap w (n + m) old 74 - (n + m))) 74)) (.slice (some ⟨w.heap.size, 0, none⟩) (n + m) (grownCap w (n + m) old 74)) ∧
      w.grownBy (w.drew.alloc (.cells (xs.toArray ++ news.toArray ++ Builtin.zeroCells (Value.agg #[.string ⟨#[]⟩, .string ⟨#[]⟩]).cells (grownCap w (n + m) old 74 - (n + m))) 74)) row := by
    intro old ho row
    have hge := grownCap_ge w (n + m) old 74
    have hcm : grownCap w (n + m) old 74 ≤ maxLen := grownCap_le_maxLen w (n + m) old 74 (by unfold maxLen; omega)
    refine ⟨⟨hlen, .inr ⟨w.heap.size, _, _, rfl, hbase, heap_alloc_new w.drew _, hge, hcm, ?_, ?_⟩⟩, ?_, ⟨rfl, rfl, rfl, by simp, fun k hk _ => heap_alloc_old w.drew _ hk⟩⟩
    · have : (Value.agg #[.string ⟨#[]⟩, .string ⟨#[]⟩]).cells.size = 2 := rfl
      have h1 := hown.1
      have h2 := hs.len
      rw [Array.size_append, Array.size_append, size_zeroCells, this, List.size_toArray, List.size_toArray]
      omega
    · simp only [Array.toList_append, List.append_assoc]
      rw [← List.append_assoc, ← hlen]
      exact List.take_left
    · intro g hg
      cases hg
      refine ⟨_, _, heap_alloc_new w.drew _, fun x hx => ?_⟩
      simp only [Array.toList_append, List.mem_append] at hx
      rcases hx with (hx | hx) | hx
      · exact hxs x hx
      · exact hs.str x hx
      · have hx := mem_zeroCells (by decide) hx
        have : x ∈ [Value.string ⟨#[]⟩, .string ⟨#[]⟩] := hx
        simp at this
        exact ⟨_, this⟩
  cases hsa : sa with
  | none =>
    have hm := hs.zero hsa
    subst hm
    have hn : news = [] := List.eq_nil_of_length_eq_zero (by simpa using hs.len)
    subst hn
    refine ⟨v, w, ?_, by simpa using hown, ha, ⟨rfl, rfl, rfl, Nat.le_refl _, fun _ _ _ => rfl⟩⟩
    rcases hown.2 with ⟨rfl, rfl⟩ | ⟨g, cap, cur, rfl, h1, h2, h3, h4, h5, h6⟩
    · simp [Builtin.append_, run_underlying ht, sizeOf, typeInfo, hi, Builtin.lenOf, Builtin.firstCells, loadCells, loadCellsFrom]
    · simp [Builtin.append_, run_underlying ht, sizeOf, typeInfo, hi, Builtin.lenOf, Builtin.firstCells, loadCells, loadCellsFrom, storeCells, h3]
  | some ad =>
    have hnews := hs.cell ad hsa
    rcases hown.2 with ⟨rfl, rfl⟩ | ⟨g, cap, cur, rfl, hbg, hg, hnc, hcm, hcs, htake⟩
    · have hx : xs = [] := List.eq_nil_of_length_eq_zero (by simpa using hown.1)
      subst hx
      by_cases hm : m = 0
      · subst hm
        have hn : news = [] := List.eq_nil_of_length_eq_zero (by simpa using hs.len)
        subst hn
        refine ⟨.slice none 0 0, w, ?_, by simpa using hown, ha, ⟨rfl, rfl, rfl, Nat.le_refl _, fun _ _ _ => rfl⟩⟩
        simp [Builtin.append_, run_underlying ht, sizeOf, typeInfo, hi, Builtin.lenOf, Builtin.firstCells, loadCells, loadCellsFrom]
      · have hr := run_append_nil (P := Tryz.prog) w 47 ty 74 i _ ht hi hz ad m c news hl hnews (by omega) (by omega) (by rw [hby]; omega)
        have hgr := grown 0 (by omega) (Value.ownBlock (.slice none 0 0))
        simp only [Nat.zero_add, List.nil_append, Array.empty_append] at hgr ⊢
        exact ⟨_, _, hr, hgr.1, hgr.2.1, hgr.2.2⟩
    · by_cases hroom : n + m ≤ cap
      · have hfit : n * 2 + news.length ≤ cur.size := by rw [hs.len, hcs, ← Nat.add_mul]; exact Nat.mul_le_mul_right _ hroom
        have hr := run_append_room (P := Tryz.prog) w 47 ty 74 i ht hi g n cap cur hg ad m c news hl hnews one hroom (by rw [hsz]; exact hfit)
        rw [hsz] at hr
        have hblk := setRow_heap w g cur (cur.toList.take (n * 2) ++ news ++ cur.toList.drop (n * 2 + news.length)).toArray 74 _ hg
        refine ⟨_, _, hr, ⟨hlen, .inr ⟨g, cap, _, rfl, hbg, hblk, hroom, hcm, ?_, ?_⟩⟩, ?_, ⟨rfl, rfl, rfl, by simp, fun k _ hk => setRow_other w g k _ (fun e => hk (by simp [Value.ownBlock, e]))⟩⟩
        · simp only [List.size_toArray, List.length_append, List.length_take, List.length_drop, Array.length_toList]
          omega
        · rw [htake, ← hlen]
          exact List.take_left
        · intro g' hg'
          cases hg'
          refine ⟨_, _, hblk, fun x hx => ?_⟩
          obtain ⟨cur', ty', h1, h2⟩ := ha g rfl
          rw [hg] at h1
          cases h1
          rcases List.mem_append.1 hx with hx | hx
          · rcases List.mem_append.1 hx with hx | hx
            · exact h2 x (List.mem_of_mem_take hx)
            · exact hs.str x hx
          · exact h2 x (List.mem_of_mem_drop hx)
      · have holds : ∀ j u, xs[j]? = some u → w.cell? ((⟨g, 0, none⟩ : Addr).add j) = some u := hown.cells (g := g) rfl
        have hr := run_append_grow (P := Tryz.prog) w 47 ty 74 i _ ht hi hz ⟨g, 0, none⟩ n cap xs (by rw [hsz]; exact hown.1) holds ad m c news hl hnews (by omega) (by omega) (growslice_fits (by omega) (by rw [hby]; omega))
        have hgr := grown cap (by omega) (Value.ownBlock (.slice (some ⟨g, 0, none⟩) n cap))
        exact ⟨_, _, hr, hgr.1, hgr.2.1, hgr.2.2⟩
theorem wpList_app {ops : Array Oper} {rest : List Oper} {o : Oper} {a : Act} {Q : Exit → Act → World → Prop} (hgd : o.guard = none) (s x : Operand)
    (ho : o.op = .call { callee := .builtin .append, args := #[s, x], argTypes := #[47, 47] })
    (es : a.eval s = v) (ex : a.eval x = .slice sa m c) (hown : w.ownsRow base 74 2 v n xs) (ha : AllS w v) (hs : Src w sa m news) (hb : n + m ≤ 1073741824) (hbase : base ≤ w.heap.size)
    (h : ∀ v' w', w'.ownsRow base 74 2 v' (n + m) (xs ++ news) → AllS w' v' → w.grownBy w' v.ownBlock → wpList Tryz.prog ops Q rest (a.put o.dst v') w') : wpList Tryz.prog ops Q (o :: rest) a w :=
  wpList_plain hgd fun _ hK => by
    obtain ⟨v', w', hr, h2, h3, h4⟩ := run_app (c := c) o.type hown ha hs hb hbase
    unfold Oper.wp execOp
    simp only [ho, resolve, invoke, builtin, Sem.run_bind, Sem.run_pure, Result.andThen_ok, List.map_toArray, List.map_cons, List.map_nil, es, ex, hr]
    exact hK _ _ (h v' w' h2 h3 h4)
end
/-- the row's source: what is left of it, cut. -/
theorem Src.of {w : World} {base k n m : Nat} {v : Value} {xs : List Value} {g cap : Nat} (h : w.ownsRow base 74 2 v n xs) (ha : AllS w v) (hv : v = .slice (some ⟨g, 0, none⟩) n cap) (hkm : k + m ≤ n) : Src w (some ⟨g, k * 2, none⟩) m ((xs.drop (k * 2)).take (m * 2)) := by
  refine ⟨by rw [List.length_take, List.length_drop, h.1]; omega, fun ad e j u hj => ?_, fun h => (by cases h), fun u hu => ?_⟩
  · cases e
    have hjl : j < m * 2 := by
      have := (List.getElem?_eq_some_iff.1 hj).1
      rw [List.length_take] at this
      omega
    rw [List.getElem?_take_of_lt hjl, List.getElem?_drop] at hj
    have := h.cells (g := g) (by rw [hv]; rfl) _ _ hj
    rw [Addr.add_lit] at this ⊢
    simpa using this
  · rcases h.2 with ⟨e, _⟩ | ⟨g', cap', cur, e, _, hg, _, _, _, htake⟩
    · rw [hv] at e; cases e
    · obtain ⟨cur', ty', h1, h2⟩ := ha g' (by rw [e]; rfl)
      rw [hg] at h1
      cases h1
      have hu := List.mem_of_mem_drop (List.mem_of_mem_take hu)
      rw [← htake] at hu
      exact h2 u (List.mem_of_mem_take hu)
end Go.Proofs.YtkpekiajdlolnabGreat

/-
  CONTRACTS OF THE DOCUMENT's SIDE (lone), first text: at.
-/
namespace Go.Proofs.YtkpekiajdlolnabGreat
open Go.RowKit Go.Maps

theorem less_bb : ∀ a b : Bs, Op.bytesLess a b = bytesBefore a b
  | [], [] => rfl
  | [], _ :: _ => rfl
  | _ :: _, [] => rfl
  | a :: x, b :: y => by simp [Op.bytesLess, bytesBefore, less_bb x y]

theorem at_here : ∀ {L : KV} {k : Bs} (i : Nat) (p : Bs × Bs), (∀ (j : Nat) (q : Bs × Bs), j < i → L[j]? = some q → bytesBefore q.1 k = true) → L[i]? = some p → bytesBefore p.1 k = false → atIx L k = i ∧ atHas L k = (p.1 == k)
  | [], _, _, _, _, h, _ => by simp at h
  | q :: L, k, 0, p, _, h, hp => by
    simp at h; subst h
    unfold atIx atHas
    simp [hp]
  | q :: L, k, i + 1, p, hj, h, hp => by
    have h0 := hj 0 q (by omega) rfl
    obtain ⟨h1, h2⟩ := at_here (L := L) (k := k) i p (fun j q' hji hq => hj (j + 1) q' (by omega) (by simpa using hq)) (by simpa using h) hp
    unfold atIx atHas
    rw [if_pos h0, if_pos h0, h1, h2]
    exact ⟨rfl, rfl⟩
theorem at_end : ∀ {L : KV} {k : Bs}, (∀ (j : Nat) (q : Bs × Bs), L[j]? = some q → bytesBefore q.1 k = true) → atIx L k = L.length ∧ atHas L k = false
  | [], _, _ => ⟨rfl, rfl⟩
  | q :: L, k, h => by
    have h0 := h 0 q rfl
    obtain ⟨h1, h2⟩ := at_end (L := L) (k := k) fun j q' hq => h (j + 1) q' (by simpa using hq)
    unfold atIx atHas
    rw [if_pos h0, if_pos h0, h1, h2]
    exact ⟨rfl, rfl⟩
theorem Below.drewN' {B : Nat} {a w : World} (h : Below B a w) (n : Nat) : Below B a (w.drewN n) := ⟨h.os, h.tape, h.output, h.size, h.block⟩
def AtPost (w : World) (ix : Nat) (has : Bool) (e : Ending) (w' : World) : Prop := e = .returned (.tuple #[.int .i64 ix, .bool has]) ∧ Below w.heap.size w w'
section
variable {w : World} {L : KV}
set_option maxRecDepth 100000 in
theorem at_nil (k : ByteArray) : Calls Tryz.prog 51 #[.slice none 0 0, .string k] w (AtPost w 0 false) := by
  go_enter Tryz.func51, Tryz.ntmps51
  go_wp2
  refine wp_loop_rounds 1 ?_
  rw [rounds_succ]
  go_wp2
  go_ret2
  exact ⟨rfl, Below.refl _ _⟩
set_option maxRecDepth 100000 in
theorem at_some (k : ByteArray) {g cap : Nat} (hc : ∀ j (p : Bs × Bs), L[j]? = some p → w.cell? ⟨g, j * 2, none⟩ = some (sv p.1) ∧ w.cell? ⟨g, j * 2 + 1, none⟩ = some (sv p.2)) (hl : L.length ≤ 1073741824) : Calls Tryz.prog 51 #[.slice (some ⟨g, 0, none⟩) L.length cap, .string k] w (AtPost w (atIx L k.data.toList) (atHas L k.data.toList)) := by
  have HC := Lib.hid hc
  clear hc
  go_enter Tryz.func51, Tryz.ntmps51
  go_wp2
  go_loopw [10] (fun i wr => ∃ j : Nat, j ≤ L.length ∧ i = .int .i64 j ∧ Hid (∀ (i : Nat) (q : Bs × Bs), i < j → L[i]? = some q → bytesBefore q.1 k.data.toList = true) ∧ Below w.heap.size w wr) (fun i _ => L.length - (intOf i).toNat)
  case atStart => exact ⟨0, Nat.zero_le _, rfl, Lib.hid (fun i q h => by omega), Below.refl _ _⟩
  case round =>
    obtain ⟨j, hj, rfl, hlt, hb⟩ := hrel
    by_cases hjl : j < L.length
    · obtain ⟨p, hp⟩ : ∃ p, L[j]? = some p := ⟨_, List.getElem?_eq_getElem hjl⟩
      obtain ⟨h0, h1⟩ := HC.out j p hp
      have h0 := (hb.cell (World.block_lt_of_cell? w _ h0)).trans h0
      have h1 := (hb.cell (World.block_lt_of_cell? w _ h1)).trans h1
      have ek : p.1 = (⟨p.1.toArray⟩ : ByteArray).toList := by rw [ByteArray.toList_eq]
      have ek2 : k.data.toList = k.toList := by rw [ByteArray.toList_eq]
      have hb2 : ∀ o, Below w.heap.size w (wr.alloc o) := fun o => hb.alloc hb.size _
      cases hlk : bytesBefore p.1 k.data.toList
      · have hh := at_here j p hlt hp hlk
        have HH := Lib.hid hh
        clear hh
        have hlk2 := hlk
        rw [ek, ek2, ← less_bb] at hlk2
        have HE : Hid ((p.1 == k.data.toList) = ((⟨p.1.toArray⟩ : ByteArray).toList == k.toList)) := by rw [← ek, ← ek2]; rfl
        clear hlk ek ek2
        unfold sv at h0 h1
        generalize (⟨p.1.toArray⟩ : ByteArray) = pk at *
        generalize (⟨p.2.toArray⟩ : ByteArray) = pv at *
        go_wp2
        go_quiet (fail)
        go_wp2
        go_ret2
        refine ⟨?_, Below.drewN' (hb2 _) _⟩
        rw [HH.out.1, HH.out.2, HE]
        rfl
      · have hlk2 := hlk
        rw [ek, ek2, ← less_bb] at hlk2
        have HN : Hid (∀ (i : Nat) (q : Bs × Bs), i < j + 1 → L[i]? = some q → bytesBefore q.1 k.data.toList = true) := fun i q hi hq => by
          rcases Nat.lt_or_ge i j with h | h
          · exact hlt i q h hq
          · obtain rfl : i = j := by omega
            rw [hp] at hq; cases hq; exact hlk
        clear hlk ek ek2 hlt
        unfold sv at h0 h1
        generalize (⟨p.1.toArray⟩ : ByteArray) = pk at *
        generalize (⟨p.2.toArray⟩ : ByteArray) = pv at *
        go_wp2
        go_roundw
        case rel => exact ⟨j + 1, by omega, rfl, HN, hb2 _⟩
        case measure => simp [intOf]; omega
    · have hh := at_end (L := L) (k := k.data.toList) fun i q hq => hlt i q (by have := (List.getElem?_eq_some_iff.1 hq).1; omega) hq
      have HH := Lib.hid hh
      clear hh hlt
      obtain rfl : j = L.length := by omega
      go_wp2
      go_ret2
      refine ⟨?_, hb⟩
      rw [HH.out.1, HH.out.2]
      rfl
end
end Go.Proofs.YtkpekiajdlolnabGreat

/-
  CONTRACTS OF THE DOCUMENT's SIDE (lone), second text: done.
-/
namespace Go.Proofs.YtkpekiajdlolnabGreat
open Go.RowKit Go.Maps

/-- a value's list of pairs. -/
def RowKV (w : World) (base : Nat) (v : Value) (L : KV) : Prop := w.ownsRow base 74 2 v L.length (flat L) ∧ AllS w v
def DonePost (w : World) (L : KV) (e : Ending) (w' : World) : Prop := ∃ v, e = .returned v ∧ RowKV w' w.heap.size v L ∧ Below w.heap.size w w'
section
variable {w : World} {L : KV}
theorem at_row {v : Value} (h : w.ownsRow 0 74 2 v L.length (flat L)) (hl : L.length ≤ 1073741824) (k : ByteArray) : Calls Tryz.prog 51 #[v, .string k] w (AtPost w (atIx L k.data.toList) (atHas L k.data.toList)) := by
  rcases h.2 with ⟨rfl, hz⟩ | ⟨g, cap, cur, rfl, _⟩
  · obtain rfl : L = [] := List.eq_nil_of_length_eq_zero hz
    exact at_nil k
  · exact at_some k (fun j p hp => by
      obtain ⟨h1, h2⟩ := flat_get L j p hp
      have c1 := h.cells (g := g) rfl _ _ h1
      have c2 := h.cells (g := g) rfl _ _ h2
      rw [Addr.add_lit, Nat.zero_add] at c1 c2
      exact ⟨c1, c2⟩) hl
theorem sv_of (k : ByteArray) : sv k.data.toList = .string k := by unfold sv; simp
theorem AllS.alloc {v : Value} (h : AllS w v) (o : Obj) : AllS (w.alloc o) v := fun g hg => by
  obtain ⟨cur, ty, h1, h2⟩ := h g hg
  exact ⟨cur, ty, (heap_alloc_old w o (Array.getElem?_eq_some_iff.1 h1).1).trans h1, h2⟩
theorem Src.one (w : World) (a b : ByteArray) (ty : TypeId) : Src (w.alloc (.cells #[.string a, .string b] ty)) (some ⟨w.heap.size, 0, none⟩) 1 [.string a, .string b] := by
  refine ⟨rfl, fun ad e j u hj => ?_, fun h => (by cases h), fun u hu => by simp at hu; rcases hu with rfl | rfl <;> exact ⟨_, rfl⟩⟩
  cases e
  rw [Addr.add_lit, Nat.zero_add]
  match j, hj with
  | 0, hj => simp at hj; subst hj; go_simp
  | 1, hj => simp at hj; subst hj; go_simp
/-- a change's cells. -/
structure CA (cb : Nat) (k x : ByteArray) (g : Bool) (w : World) : Prop where
  c0 : w.cell? ⟨cb, 0, none⟩ = some (.string k)
  c1 : w.cell? ⟨cb, 1, none⟩ = some (.string x)
  c2 : w.cell? ⟨cb, 2, none⟩ = some (.bool g)
theorem CA.of {k x : ByteArray} {g : Bool} {ty : TypeId} {w1 : World} (hb : Below (w.alloc (.cells #[.string k, .string x, .bool g] ty)).heap.size (w.alloc (.cells #[.string k, .string x, .bool g] ty)) w1) : CA w.heap.size k x g w1 ∧ Below w.heap.size w w1 ∧ w.heap.size < w1.heap.size :=
  ⟨⟨(hb.cell (p := ⟨w.heap.size, 0, none⟩) (by simp)).trans (by go_simp), (hb.cell (p := ⟨w.heap.size, 1, none⟩) (by simp)).trans (by go_simp), (hb.cell (p := ⟨w.heap.size, 2, none⟩) (by simp)).trans (by go_simp)⟩,
   ((Below.refl _ _).alloc (Nat.le_refl _) _).trans (hb.mono (by simp)), by have := hb.size; simp at this; omega⟩
theorem CA.grown {cb : Nat} {k x : ByteArray} {g : Bool} {w1 : World} {row : Option Nat} (h : CA cb k x g w) (hg : w.grownBy w1 row) (hne : some cb ≠ row) : CA cb k x g w1 :=
  ⟨hg.cell h.c0 hne, hg.cell h.c1 hne, hg.cell h.c2 hne⟩
theorem ne_own {v : Value} {n base cb : Nat} {xs : List Value} (h : w.ownsRow base 74 2 v n xs) (hb : cb < base) : some cb ≠ v.ownBlock := fun e => by
  have := (h.lt cb e.symm).1
  omega
theorem below_byGrown {a w1 : World} {B : Nat} {v : Value} {n base : Nat} {xs : List Value} (h : Below B a w) (hg : w.grownBy w1 v.ownBlock) (hr : w.ownsRow base 74 2 v n xs) (hb : B ≤ base) (hs : B ≤ w.heap.size) : Below B a w1 :=
  h.grown hg hs fun j hj => by have := (hr.lt j hj).1; omega
theorem row_src {v : Value} {g cap : Nat} (hr : RowKV w 0 v L) (hv : v = .slice (some ⟨g, 0, none⟩) L.length cap) {w' : World} (hb : Below w.heap.size w w') (i m : Nat) (him : i + m ≤ L.length) : Src w' (some ⟨g, i * 2, none⟩) m (flat ((L.drop i).take m)) := by
  subst hv
  have h := hr.1
  refine ⟨by rw [flat_length, List.length_take, List.length_drop]; omega, fun ad e j u hj => ?_, fun h => (by cases h), fun u hu => flat_str hu⟩
  cases e
  rw [← flat_take, ← flat_drop] at hj
  have hjl : j < m * 2 := by
    have := (List.getElem?_eq_some_iff.1 hj).1
    rw [List.length_take] at this
    omega
  rw [List.getElem?_take_of_lt hjl, List.getElem?_drop] at hj
  have hc := h.cells (g := g) rfl _ _ hj
  rw [Addr.add_lit] at hc ⊢
  have hc : w.cell? ⟨g, i * 2 + j, none⟩ = some u := by simpa using hc
  exact (hb.cell (World.block_lt_of_cell? w _ hc)).trans hc
theorem row_end {B b n : Nat} {v : Value} {xs : List Value} {L : KV} (h : w.ownsRow b 74 2 v n xs) (ha : AllS w v) (hB : B ≤ b) (e : xs = flat L) : RowKV w B v L := by
  have hn : n = L.length := by have := h.1; rw [e, flat_length] at this; omega
  subst hn
  subst e
  exact ⟨⟨h.1, h.2.imp id fun ⟨g, cap, cur, h1, h2, h3⟩ => ⟨g, cap, cur, h1, Nat.le_trans hB h2, h3⟩⟩, ha⟩
theorem cut_addr {g i n cap : Nat} (h : n ≤ cap) : (if cap = i then (some ⟨g, 0, none⟩ : Option Addr) else some ⟨g, i * 2, none⟩) = some ⟨g, i * 2, none⟩ ∨ n - i = 0 ∧ ∃ a, (if cap = i then (some ⟨g, 0, none⟩ : Option Addr) else some ⟨g, i * 2, none⟩) = some a := by
  by_cases hc : cap = i
  · rw [if_pos hc]; exact .inr ⟨by omega, _, rfl⟩
  · rw [if_neg hc]; exact .inl rfl
theorem src_any {g : Nat} {w' : World} {sa : Option Addr} (HS : ∀ w', Below w.heap.size w w' → ∀ i m, i + m ≤ L.length → Src w' (some ⟨g, i * 2, none⟩) m (flat ((L.drop i).take m))) (hb : Below w.heap.size w w') (i : Nat) (hle : i ≤ L.length)
    (hsa : sa = some ⟨g, i * 2, none⟩ ∨ (L.length - i = 0 ∧ ∃ a, sa = some a)) : Src w' sa (L.length - i) (flat (L.drop i)) := by
  rcases hsa with rfl | ⟨h0, a, rfl⟩
  · have := HS w' hb i (L.length - i) (by omega)
    rwa [List.take_of_length_le (by rw [List.length_drop]; exact Nat.le_refl _)] at this
  · have hd : L.drop i = [] := List.drop_eq_nil_of_le (by omega)
    rw [hd, h0]
    exact ⟨rfl, fun ad e j u hj => by simp [flat_nil] at hj, fun h => (by cases h), fun u hu => by simp [flat_nil] at hu⟩
theorem Src.nil {w : World} : Src w none 0 [] := ⟨rfl, fun ad e j u hj => by simp at hj, fun _ => rfl, fun u hu => by cases hu⟩
set_option maxRecDepth 100000 in
set_option maxHeartbeats 1000000 in
theorem done_some (k x : ByteArray) (gone : Bool) {g cap ix : Nat} {has : Bool} (hr : RowKV w 0 (.slice (some ⟨g, 0, none⟩) L.length cap) L) (hcap : L.length ≤ cap) (hl : L.length ≤ 1073741822) (hix : atIx L k.data.toList = ix) (hhas : atHas L k.data.toList = has) (hle : ix ≤ L.length) (hlt : has = true → ix < L.length) :
    Calls Tryz.prog 52 #[.slice (some ⟨g, 0, none⟩) L.length cap, .agg #[.string k, .string x, .bool gone]] w (DonePost w (kvDone L k.data.toList x.data.toList gone)) := by
  have hat := fun w' (hb : Below w.heap.size w w') => at_row (w := w') (L := L) (v := .slice (some ⟨g, 0, none⟩) L.length cap) (by
    refine ⟨hr.1.1, hr.1.2.imp id ?_⟩
    rintro ⟨g, cap, cur, h1, h2, h3, h4⟩
    exact ⟨g, cap, cur, h1, h2, (hb.block g (Array.getElem?_eq_some_iff.1 h3).1).trans h3, h4⟩) (by omega) k
  rw [hix, hhas] at hat
  have HAT := Lib.hid hat
  have hs1 := fun w' (hb : Below w.heap.size w w') => row_src hr rfl hb
  have HS1 := Lib.hid hs1
  unfold kvDone
  rw [hix, hhas]
  clear hat hix hhas hs1
  have HR := Lib.hid hr
  clear hr
  have HQ : Hid (0 + ix + (L.length - ix) ≤ 1073741824 ∧ 0 + ix + (L.length - (ix + 1)) ≤ 1073741824 ∧ 0 + ix + 1 + (L.length - ix) ≤ 1073741824 ∧ 0 + ix + 1 + (L.length - (ix + 1)) ≤ 1073741824) := by refine ⟨?_, ?_, ?_, ?_⟩ <;> omega
  have HL : Hid (has = true → ix + 1 ≤ L.length) := hlt
  clear hlt
  cases has
  case' true => have hix1 : ix + 1 ≤ L.length := HL.out rfl
  all_goals cases gone
  all_goals
    go_enter Tryz.func52, Tryz.ntmps52
    go_wp2_with (first
      | (go_at_call 51; refine (HAT.out _ ((Below.refl _ _).alloc (Nat.le_refl _) _)).mono ?_; rintro e w1 ⟨rfl, hb1⟩; have H1 := Lib.hid (CA.of hb1); obtain ⟨c0, c1, c2⟩ := H1.out.1; clear hb1)
      | (at_builtin; refine wpList_app (v := .slice none 0 0) rfl (.const (.slice none 0 0)) (.tmp 17) rfl rfl rfl (World.ownsRow_nil _ w1.heap.size _ _) (AllS.nil _) (HS1.out _ H1.out.2.1 0 ix (by omega)) (by omega) (Nat.le_refl _) ?_; intro v2 w2 hrow2 hall2 hg2; have H2 := Lib.hid (H1.out.1.grown hg2 (fun e => by cases e)); obtain ⟨c20, c21, c22⟩ := H2.out; have HZ2 := Lib.hid (Nat.le_trans (Nat.le_refl w1.heap.size) hg2.size); have HR2 := Lib.hid hrow2; have HA2 := Lib.hid hall2; have HB2 := Lib.hid (H1.out.2.1.grown hg2 (Nat.le_of_lt H1.out.2.2) (fun j hj => by cases hj)); clear hrow2 hall2 hg2)
      | (at_builtin; refine wpList_app (v := v2) rfl (.tmp 22) (.tmp 28) rfl rfl rfl (HR2.out.alloc _) (HA2.out.alloc _) (Src.one w2 k x _) (by omega) (Nat.le_trans HZ2.out (by simp)) ?_; intro v3 w3 hrow3 hall3 hg3; have HR3 := Lib.hid hrow3; have HA3 := Lib.hid hall3; have HB3 := Lib.hid (below_byGrown (HB2.out.alloc HB2.out.size _) hg3 (HR2.out.alloc _) (Nat.le_of_lt H1.out.2.2) (Nat.le_trans HB2.out.size (by simp))); have HZ3 := Lib.hid (Nat.le_trans HZ2.out (Nat.le_trans (by simp) hg3.size)); clear hrow3 hall3 hg3)
      | (at_builtin; refine wpList_app (v := v3) rfl (.tmp 33) (.tmp 36) rfl rfl rfl HR3.out HA3.out (src_any HS1.out HB3.out ix hle (cut_addr hcap)) HQ.out.2.2.1 HZ3.out ?_; intro v4 w4 hrow4 hall4 hg4; have hb4 := below_byGrown HB3.out hg4 HR3.out (Nat.le_of_lt H1.out.2.2) HB3.out.size; have HE4 := Lib.hid (And.intro (And.intro hrow4 hall4) hb4); clear hrow4 hall4 hg4 hb4)
      | (at_builtin; refine wpList_app (v := v3) rfl (.tmp 33) (.tmp 36) rfl rfl rfl HR3.out HA3.out (src_any HS1.out HB3.out (ix + 1) hix1 (cut_addr hcap)) HQ.out.2.2.2 HZ3.out ?_; intro v4 w4 hrow4 hall4 hg4; have hb4 := below_byGrown HB3.out hg4 HR3.out (Nat.le_of_lt H1.out.2.2) HB3.out.size; have HE4 := Lib.hid (And.intro (And.intro hrow4 hall4) hb4); clear hrow4 hall4 hg4 hb4)
      | (at_builtin; refine wpList_app (v := v2) rfl (.tmp 33) (.tmp 36) rfl rfl rfl HR2.out HA2.out (src_any HS1.out HB2.out ix hle (cut_addr hcap)) HQ.out.1 HZ2.out ?_; intro v4 w4 hrow4 hall4 hg4; have hb4 := below_byGrown HB2.out hg4 HR2.out (Nat.le_of_lt H1.out.2.2) HB2.out.size; have HE4 := Lib.hid (And.intro (And.intro hrow4 hall4) hb4); clear hrow4 hall4 hg4 hb4)
      | (at_builtin; refine wpList_app (v := v2) rfl (.tmp 33) (.tmp 36) rfl rfl rfl HR2.out HA2.out (src_any HS1.out HB2.out (ix + 1) hix1 (cut_addr hcap)) HQ.out.2.1 HZ2.out ?_; intro v4 w4 hrow4 hall4 hg4; have hb4 := below_byGrown HB2.out hg4 HR2.out (Nat.le_of_lt H1.out.2.2) HB2.out.size; have HE4 := Lib.hid (And.intro (And.intro hrow4 hall4) hb4); clear hrow4 hall4 hg4 hb4)
      )
    all_goals go_ret
    all_goals exact ⟨v4, rfl, row_end HE4.out.1.1 HE4.out.1.2 (Nat.le_of_lt H1.out.2.2) (by simp [flat_append, flat_cons, flat_nil, sv_of]; try rw [← flat_append, List.take_append_drop]), HE4.out.2⟩
set_option maxRecDepth 100000 in
set_option maxHeartbeats 1000000 in
theorem done_nil (k x : ByteArray) : Calls Tryz.prog 52 #[.slice none 0 0, .agg #[.string k, .string x, .bool false]] w (DonePost w [(k.data.toList, x.data.toList)]) := by
  have HAT := Lib.hid (fun w' => at_nil (w := w') k)
  go_enter Tryz.func52, Tryz.ntmps52
  go_wp2_with (first
    | (go_at_call 51; refine (HAT.out _).mono ?_; rintro e w1 ⟨rfl, hb1⟩; have H1 := Lib.hid (CA.of hb1); obtain ⟨c0, c1, c2⟩ := H1.out.1; clear hb1)
    | (at_builtin; refine wpList_app (v := .slice none 0 0) (sa := none) (m := 0) (news := []) rfl (.const (.slice none 0 0)) (.tmp 17) rfl rfl rfl (World.ownsRow_nil _ w1.heap.size _ _) (AllS.nil _) Src.nil (by omega) (Nat.le_refl _) ?_; intro v2 w2 hrow2 hall2 hg2; have H2 := Lib.hid (H1.out.1.grown hg2 (fun e => by cases e)); obtain ⟨c20, c21, c22⟩ := H2.out; have HZ2 := Lib.hid (Nat.le_trans (Nat.le_refl w1.heap.size) hg2.size); have HR2 := Lib.hid hrow2; have HA2 := Lib.hid hall2; have HB2 := Lib.hid (H1.out.2.1.grown hg2 (Nat.le_of_lt H1.out.2.2) (fun j hj => by cases hj)); clear hrow2 hall2 hg2)
    | (at_builtin; refine wpList_app (v := v2) rfl (.tmp 22) (.tmp 28) rfl rfl rfl (HR2.out.alloc _) (HA2.out.alloc _) (Src.one w2 k x _) (by omega) (Nat.le_trans HZ2.out (by simp)) ?_; intro v3 w3 hrow3 hall3 hg3; have HR3 := Lib.hid hrow3; have HA3 := Lib.hid hall3; have HB3 := Lib.hid (below_byGrown (HB2.out.alloc HB2.out.size _) hg3 (HR2.out.alloc _) (Nat.le_of_lt H1.out.2.2) (Nat.le_trans HB2.out.size (by simp))); have HZ3 := Lib.hid (Nat.le_trans HZ2.out (Nat.le_trans (by simp) hg3.size)); clear hrow3 hall3 hg3)
    | (at_builtin; refine wpList_app (v := v3) (sa := none) (m := 0) (news := []) rfl (.tmp 33) (.tmp 36) rfl rfl rfl HR3.out HA3.out Src.nil (by omega) HZ3.out ?_; intro v4 w4 hrow4 hall4 hg4; have hb4 := below_byGrown HB3.out hg4 HR3.out (Nat.le_of_lt H1.out.2.2) HB3.out.size; have HE4 := Lib.hid (And.intro (And.intro hrow4 hall4) hb4); clear hrow4 hall4 hg4 hb4)
    )
  all_goals go_ret
  all_goals exact ⟨v4, rfl, row_end HE4.out.1.1 HE4.out.1.2 (Nat.le_of_lt H1.out.2.2) (by simp [flat_cons, flat_nil, sv_of]), HE4.out.2⟩
end
end Go.Proofs.YtkpekiajdlolnabGreat

/-
  CONTRACTS OF THE DOCUMENT's SIDE (lone), third text: Of.
-/
namespace Go.Proofs.YtkpekiajdlolnabGreat
open Go.RowKit Go.Maps

theorem shd_lt (c : Nat) : shd c = if c < 104 then 0 else if c < 110 then 1 else if c < 117 then 2 else 3 := by
  unfold shd
  by_cases h1 : c ≤ 103
  · rw [if_pos h1, if_pos (show c < 104 by omega)]
  · rw [if_neg h1, if_neg (show ¬ c < 104 by omega)]
    by_cases h2 : c ≤ 109
    · rw [if_pos h2, if_pos (show c < 110 by omega)]
    · rw [if_neg h2, if_neg (show ¬ c < 110 by omega)]
      by_cases h3 : c ≤ 116
      · rw [if_pos h3, if_pos (show c < 117 by omega)]
      · rw [if_neg h3, if_neg (show ¬ c < 117 by omega)]
def RofPost (x : Int) (w : World) (e : Ending) (w' : World) : Prop := e = .returned (.int .i64 x) ∧ Below w.heap.size w w'
section
variable {w : World}
set_option maxRecDepth 100000 in
theorem rof_short (s : ByteArray) (h : s.size = 0 ∨ 8 < s.size) : Calls Tryz.prog 50 #[.string s] w (RofPost (-1) w) := by
  rcases h with h | h
  · have hs1 : decide ((s.size : Int) < 1) = true := by simp; omega
    go_enter Tryz.func50, Tryz.ntmps50
    go_wp2
    go_ret
    exact ⟨rfl, Below.refl _ _⟩
  · have hs1 : decide ((s.size : Int) < 1) = false := by simp; omega
    have hs2 : decide ((8 : Int) < s.size) = true := by simp; omega
    go_enter Tryz.func50, Tryz.ntmps50
    go_wp2
    go_ret
    exact ⟨rfl, Below.refl _ _⟩
set_option maxRecDepth 100000 in
theorem rof_yes (s : ByteArray) (h : keyB s.data.toList = true) : Calls Tryz.prog 50 #[.string s] w (RofPost (shardOf s.data.toList) w) := by
  simp only [keyB, Bool.and_eq_true, decide_eq_true_eq, List.all_eq_true, letter_iff] at h
  obtain ⟨h0, h8, hl⟩ := h
  have h0 : 0 < s.size := by simpa using h0
  have h8 : s.size ≤ 8 := by simpa using h8
  have hs1 : decide ((s.size : Int) < 1) = false := by simp; omega
  have hs2 : decide ((8 : Int) < s.size) = false := by simp; omega
  have hh : shardOf s.data.toList = shd (s[0]'h0).toNat := by
    unfold shardOf
    cases e : s.data.toList with
    | nil => have : s.data.toList.length = s.size := by simp
             rw [e] at this; simp at this; omega
    | cons a l =>
      have : s[0] = a := by
        have h1 : s[0] = s.data.toList[0]'(by simpa using h0) := by simp [ByteArray.getElem_eq_getElem_data]
        rw [h1]; simp [e]
      rw [this]; rfl
  rw [hh]
  have HL := Lib.hid hl
  clear hl hh
  go_enter Tryz.func50, Tryz.ntmps50
  go_wp2
  go_loopw [3] (fun i w' => ∃ k : Nat, k ≤ s.size ∧ i = .int .i64 k ∧ w' = w) (fun i _ => s.size - (intOf i).toNat)
  case atStart => exact ⟨0, Nat.zero_le _, rfl, rfl⟩
  case round =>
    obtain ⟨k, hk, rfl, rfl⟩ := hrel
    by_cases hp : k < s.size
    · have hlt := HL.out (s[k]'hp) (by simp [ByteArray.getElem_eq_getElem_data])
      have g1 : decide (((s[k]'hp).toNat : Int) < 97) = false := by simp; omega
      have g2 : decide ((122 : Int) < ((s[k]'hp).toNat : Int)) = false := by simp; omega
      go_wp2
      go_roundw
      case rel => exact ⟨k + 1, by omega, rfl, trivial⟩
      case measure => simp [intOf]; omega
    · obtain rfl : k = s.size := by omega
      have hlt := HL.out (s[0]'h0) (by simp [ByteArray.getElem_eq_getElem_data])
      have h104 : (s[0]'h0).toNat < 104 ∨ (104 ≤ (s[0]'h0).toNat ∧ (s[0]'h0).toNat < 110) ∨ (110 ≤ (s[0]'h0).toNat ∧ (s[0]'h0).toNat < 117) ∨ 117 ≤ (s[0]'h0).toNat := by omega
      have he : ∀ o, Below wr.heap.size wr (wr.alloc o) := fun o => (Below.refl _ _).alloc (Nat.le_refl _) o
      have HE := Lib.hid he
      clear he
      have dec : ∀ n : Int, n ≤ ((s[0]'h0).toNat : Int) → decide (n ≤ ((s[0]'h0).toNat : Int)) = true := fun n h => decide_eq_true h
      have ded : ∀ n : Int, ((s[0]'h0).toNat : Int) < n → decide (n ≤ ((s[0]'h0).toNat : Int)) = false := fun n h => decide_eq_false (by omega)
      have HS := Lib.hid (shd_lt (s[0]'h0).toNat)
      rcases h104 with h | ⟨h, h'⟩ | ⟨h, h'⟩ | h
      · have g1 := ded 104 (by omega)
        have g2 := ded 110 (by omega)
        have g3 := ded 117 (by omega)
        have HS := Lib.hid (HS.out.trans (if_pos h))
        go_wp2
        refine wp_loop_rounds 4 ?_
        rw [rounds_succ]; go_wp2; rw [rounds_succ]; go_wp2; rw [rounds_succ]; go_wp2; rw [rounds_succ]; go_wp2
        go_ret
        exact ⟨by rw [HS.out]; rfl, HE.out _⟩
      · have g1 := dec 104 (by omega)
        have g2 := ded 110 (by omega)
        have g3 := ded 117 (by omega)
        have HS := Lib.hid (HS.out.trans ((if_neg (by omega)).trans (if_pos h')))
        go_wp2
        refine wp_loop_rounds 4 ?_
        rw [rounds_succ]; go_wp2; rw [rounds_succ]; go_wp2; rw [rounds_succ]; go_wp2; rw [rounds_succ]; go_wp2
        go_ret
        exact ⟨by rw [HS.out]; rfl, HE.out _⟩
      · have g1 := dec 104 (by omega)
        have g2 := dec 110 (by omega)
        have g3 := ded 117 (by omega)
        have HS := Lib.hid (HS.out.trans ((if_neg (by omega)).trans ((if_neg (by omega)).trans (if_pos h'))))
        go_wp2
        refine wp_loop_rounds 4 ?_
        rw [rounds_succ]; go_wp2; rw [rounds_succ]; go_wp2; rw [rounds_succ]; go_wp2; rw [rounds_succ]; go_wp2
        go_ret
        exact ⟨by rw [HS.out]; rfl, HE.out _⟩
      · have g1 := dec 104 (by omega)
        have g2 := dec 110 (by omega)
        have g3 := dec 117 (by omega)
        have HS := Lib.hid (HS.out.trans ((if_neg (by omega)).trans ((if_neg (by omega)).trans (if_neg (by omega)))))
        go_wp2
        refine wp_loop_rounds 4 ?_
        rw [rounds_succ]; go_wp2; rw [rounds_succ]; go_wp2; rw [rounds_succ]; go_wp2; rw [rounds_succ]; go_wp2
        go_ret
        exact ⟨by rw [HS.out]; rfl, HE.out _⟩
set_option maxRecDepth 100000 in
theorem rof_bad (s : ByteArray) (h0 : 0 < s.size) (h8 : s.size ≤ 8) (hl : ¬ s.data.toList.all letter = true) : Calls Tryz.prog 50 #[.string s] w (RofPost (-1) w) := by
  have hs1 : decide ((s.size : Int) < 1) = false := by simp; omega
  have hs2 : decide ((8 : Int) < s.size) = false := by simp; omega
  have HL := Lib.hid hl
  clear hl
  go_enter Tryz.func50, Tryz.ntmps50
  go_wp2
  go_loopw [3] (fun i w' => ∃ k : Nat, k ≤ s.size ∧ i = .int .i64 k ∧ w' = w ∧ Hid ((s.data.toList.take k).all letter = true)) (fun i _ => s.size - (intOf i).toNat)
  case atStart => exact ⟨0, Nat.zero_le _, rfl, rfl, Lib.hid (by simp)⟩
  case round =>
    obtain ⟨k, hk, rfl, rfl, HA⟩ := hrel
    by_cases hp : k < s.size
    · by_cases h1 : (s[k]'hp).toNat < 97
      · have g1 : decide (((s[k]'hp).toNat : Int) < 97) = true := by simp; omega
        go_wp2
        go_ret
        exact ⟨rfl, Below.refl _ _⟩
      · have g1 : decide (((s[k]'hp).toNat : Int) < 97) = false := by simp; omega
        by_cases h2 : 122 < (s[k]'hp).toNat
        · have g2 : decide ((122 : Int) < ((s[k]'hp).toNat : Int)) = true := by simp; omega
          go_wp2
          go_ret
          exact ⟨rfl, Below.refl _ _⟩
        · have g2 : decide ((122 : Int) < ((s[k]'hp).toNat : Int)) = false := by simp; omega
          have hlt : letter s[k] = true := by simp [letter]; omega
          have HN : Hid ((s.data.toList.take (k + 1)).all letter = true) := Lib.hid (by rw [all_take_succ s k hp, HA.out, hlt]; rfl)
          clear hlt
          go_wp2
          go_roundw
          case rel => exact ⟨k + 1, by omega, rfl, trivial, HN⟩
          case measure => simp [intOf]; omega
    · exact absurd (by have e := HA.out; rwa [List.take_of_length_le (by simp; omega)] at e) HL.out
theorem rof_no (s : ByteArray) (h : keyB s.data.toList = false) : Calls Tryz.prog 50 #[.string s] w (RofPost (-1) w) := by
  by_cases h0 : s.size = 0 ∨ 8 < s.size
  · exact rof_short s h0
  · refine rof_bad s (by omega) (by omega) fun hl => ?_
    have : keyB s.data.toList = true := by
      simp only [keyB, Bool.and_eq_true, decide_eq_true_eq]
      exact ⟨by simp; omega, by simp; omega, hl⟩
    rw [h] at this; cases this
end
end Go.Proofs.YtkpekiajdlolnabGreat

/-
  CONTRACTS (lone), fourth text: Cluster.change, where nothing moves.
-/
namespace Go.Proofs.YtkpekiajdlolnabGreat
open Go.RowKit Go.Maps

/-- the cells of a shard's part. -/
structure PartAt (w : World) (cl n : Nat) (db mb : Nat) (mv : Option Addr) (L : KV) : Prop where
  d : w.cell? ⟨cl, 1 + n * 3 + 1, none⟩ = some (.pointer (some ⟨db, 0, none⟩))
  v : w.cell? ⟨cl, 1 + n * 3 + 2, none⟩ = some (.pointer mv)
  m : w.cell? ⟨db, 0, none⟩ = some (.map (some mb))
  l : MapKV w mb L
theorem PartAt.block {w w' : World} {cl n db mb : Nat} {mv : Option Addr} {L : KV} (h : PartAt w cl n db mb mv L) (k : ∀ b, b = cl ∨ b = db ∨ b = mb → w'.heap[b]? = w.heap[b]?) : PartAt w' cl n db mb mv L :=
  ⟨(World.cell?_of_block (k _ (.inl rfl))).trans h.d, (World.cell?_of_block (k _ (.inl rfl))).trans h.v, (World.cell?_of_block (k _ (.inr (.inl rfl)))).trans h.m, h.l.block (k _ (.inr (.inr rfl)))⟩
theorem PartAt.lt {w : World} {cl n db mb : Nat} {mv : Option Addr} {L : KV} (h : PartAt w cl n db mb mv L) : cl < w.heap.size ∧ db < w.heap.size ∧ mb < w.heap.size :=
  ⟨World.block_lt_of_cell? w _ h.d, World.block_lt_of_cell? w _ h.m, h.l.lt⟩
theorem PartAt.below {w w' : World} {cl n db mb : Nat} {mv : Option Addr} {L : KV} (h : PartAt w cl n db mb mv L) (k : Below w.heap.size w w') : PartAt w' cl n db mb mv L :=
  h.block fun b hb => k.block b (by have := h.lt; rcases hb with rfl | rfl | rfl <;> omega)

def RetB (x : Int) (w : World) (e : Ending) (w' : World) : Prop := e = .returned (.int .i64 x) ∧ Below w.heap.size w w'
section
variable {w : World} {cl db mb : Nat} {L : KV}
theorem change_key (k v : ByteArray) (g : Bool) (h : keyB k.data.toList = false) (hs : k.size ≤ maxLen) : Calls Tryz.prog 40 #[.pointer (some ⟨cl, 0, none⟩), .agg #[.string k, .string v, .bool g]] w (RetB 2 w) := by
  go_enter Tryz.func40, Tryz.ntmps40
  go_wp2_with (go_at_call 41; refine (of_no _ _ h hs).mono ?_; rintro e w1 ⟨rfl, hb⟩)
  go_ret
  exact ⟨rfl, ((Below.refl _ _).alloc (Nat.le_refl _) _).trans (hb.mono (by simp))⟩
/-- what change reads. -/
structure ChW (cb cl n db mb : Nat) (mv : Option Addr) (L : KV) (k v : ByteArray) (g : Bool) (w : World) : Prop where
  c0 : w.cell? ⟨cb, 0, none⟩ = some (.string k)
  c1 : w.cell? ⟨cb, 1, none⟩ = some (.string v)
  c2 : w.cell? ⟨cb, 2, none⟩ = some (.bool g)
  d : w.cell? ⟨cl, 1 + n * 3 + 1, none⟩ = some (.pointer (some ⟨db, 0, none⟩))
  v : w.cell? ⟨cl, 1 + n * 3 + 2, none⟩ = some (.pointer mv)
  m : w.cell? ⟨db, 0, none⟩ = some (.map (some mb))
  l : MapKV w mb L
theorem ChW.of {n : Nat} {mv : Option Addr} {k v : ByteArray} {g : Bool} {w1 : World} (hp : PartAt w cl n db mb mv L) (hb : Below (w.alloc (.cells #[.string k, .string v, .bool g] 87)).heap.size (w.alloc (.cells #[.string k, .string v, .bool g] 87)) w1) :
    ChW w.heap.size cl n db mb mv L k v g w1 ∧ Below w.heap.size w w1 := by
  have hb0 : Below w.heap.size w w1 := ((Below.refl _ _).alloc (Nat.le_refl _) _).trans (hb.mono (by simp))
  obtain ⟨pd, pv, pm, pl⟩ := hp.below hb0
  exact ⟨⟨(hb.cell (p := ⟨w.heap.size, 0, none⟩) (by simp)).trans (by go_simp), (hb.cell (p := ⟨w.heap.size, 1, none⟩) (by simp)).trans (by go_simp), (hb.cell (p := ⟨w.heap.size, 2, none⟩) (by simp)).trans (by go_simp), pd, pv, pm, pl⟩, hb0⟩
theorem ChW.below {cb n : Nat} {mv : Option Addr} {k v : ByteArray} {g : Bool} {w1 : World} (h : ChW cb cl n db mb mv L k v g w) (hb : Below w.heap.size w w1) : ChW cb cl n db mb mv L k v g w1 :=
  ⟨(hb.cell (World.block_lt_of_cell? w _ h.c0)).trans h.c0, (hb.cell (World.block_lt_of_cell? w _ h.c1)).trans h.c1, (hb.cell (World.block_lt_of_cell? w _ h.c2)).trans h.c2, (hb.cell (World.block_lt_of_cell? w _ h.d)).trans h.d, (hb.cell (World.block_lt_of_cell? w _ h.v)).trans h.v, (hb.cell (World.block_lt_of_cell? w _ h.m)).trans h.m, h.l.block (hb.block _ h.l.lt)⟩
theorem ChW.but {cb n : Nat} {mv : Option Addr} {k v : ByteArray} {g : Bool} {w1 : World} {L' : KV} (h : ChW cb cl n db mb mv L k v g w) (hb : But (· = mb) w w1) (hm : MapKV w1 mb L') : ChW cb cl n db mb mv L' k v g w1 := by
  have ne : ∀ {b o : Nat} {x : Value}, w.cell? ⟨b, o, none⟩ = some x → b ≠ mb := fun {b o x} hx e => by
    obtain ⟨es, ck, hb, _⟩ := h.l
    subst e
    unfold World.cell? at hx
    rw [hb] at hx
    cases hx
  have cell : ∀ {b o : Nat} {x : Value}, w.cell? ⟨b, o, none⟩ = some x → w1.cell? ⟨b, o, none⟩ = some x := fun hx => (World.cell?_of_block (hb.keep _ (World.block_lt_of_cell? w _ hx) (ne hx))).trans hx
  exact ⟨cell h.c0, cell h.c1, cell h.c2, cell h.d, cell h.v, cell h.m, hm⟩
theorem ChW.drew {cb n : Nat} {mv : Option Addr} {k v : ByteArray} {g : Bool} (h : ChW cb cl n db mb mv L k v g w) : ChW cb cl n db mb mv L k v g w.drew := h.below (w1 := w.drew) ⟨rfl, rfl, rfl, Nat.le_refl _, fun _ _ => rfl⟩

theorem len_c2 {w : World} {db mb : Nat} {L : KV} (hd : w.cell? ⟨db, 0, none⟩ = some (.map (some mb))) (hm : MapKV w mb L) : Calls Tryz.prog 68 #[.pointer (some ⟨db, 0, none⟩)] w fun e w' => e = .returned (.int .i64 L.length) ∧ w = w' :=
  (len_c hd hm).mono fun _ _ h => ⟨h.1, h.2.symm⟩
def ChPost (w : World) (mb : Nat) (L : KV) (c : Int) (e : Ending) (w' : World) : Prop := e = .returned (.int .i64 c) ∧ MapKV w' mb L ∧ But (· = mb) w w'
theorem get_held {W : World} {n : Nat} {k v : ByteArray} {g : Bool} {w1 : World} {A B : Prop} (h : A ∧ B ∧ Hid (ChW W.heap.size cl n db mb none L k v g w1 ∧ Below W.heap.size W w1)) (hk : k.size ≤ maxLen) :
    Calls Tryz.prog 42 #[.pointer (some ⟨db, 0, none⟩), .string k] w1 fun e w' => (e = .returned (.tuple #[sv ((kvFind L k.data.toList).getD []), .bool (kvFind L k.data.toList).isSome])) ∧ ChW W.heap.size cl n db mb none L k v g w' ∧ Below W.heap.size W w' :=
  (get_c h.2.2.out.1.m h.2.2.out.1.l k hk).mono fun e w' ⟨h1, h2⟩ => ⟨h1, h.2.2.out.1.below h2, h.2.2.out.2.trans (h2.mono h.2.2.out.2.size)⟩
/-- what a change comes to. -/
def chCode (L : KV) (k v : Bs) (g : Bool) : Int := if 12 < v.length then 3 else if !g && !(kvFind L k).isSome && L.length == 12 then 4 else if g && !(kvFind L k).isSome then 6 else 0
def chL (L : KV) (k v : Bs) (g : Bool) : KV := if chCode L k v g = 0 then (if g then kvDel L k else kvPut L k v) else L
theorem ch_big {L : KV} {k v : Bs} {g : Bool} (h : 12 < v.length) : chCode L k v g = 3 ∧ chL L k v g = L := by
  have : chCode L k v g = 3 := by unfold chCode; rw [if_pos h]
  exact ⟨this, by unfold chL; rw [this]; rfl⟩
theorem ch_not {L : KV} {k v : Bs} {g : Bool} (h : ¬ 12 < v.length) :
    (g = false → (kvFind L k).isSome = false → L.length = 12 → chCode L k v g = 4 ∧ chL L k v g = L) ∧ (g = false → ((kvFind L k).isSome = true ∨ L.length ≠ 12) → chCode L k v g = 0 ∧ chL L k v g = kvPut L k v) ∧
    (g = true → (kvFind L k).isSome = false → chCode L k v g = 6 ∧ chL L k v g = L) ∧ (g = true → (kvFind L k).isSome = true → chCode L k v g = 0 ∧ chL L k v g = kvDel L k) := by
  unfold chL chCode
  rw [if_neg h]
  refine ⟨fun h1 h2 h3 => ?_, fun h1 h2 => ?_, fun h1 h2 => ?_, fun h1 h2 => ?_⟩
  · subst h1; simp [h2, h3]
  · subst h1; rcases h2 with h2 | h2 <;> simp [h2]
  · subst h1; simp [h2]
  · subst h1; simp [h2]
set_option maxRecDepth 100000 in
set_option maxHeartbeats 1000000 in
theorem change_yes (k v : ByteArray) (g : Bool) (n : Nat) (hn : n < 4) (hk : keyB k.data.toList = true) (hkn : shardOf k.data.toList = n) (hks : k.size ≤ maxLen) (hL : L.length ≤ 12) (hp : PartAt w cl n db mb none L) :
    Calls Tryz.prog 40 #[.pointer (some ⟨cl, 0, none⟩), .agg #[.string k, .string v, .bool g]] w (ChPost w mb (chL L k.data.toList v.data.toList g) (chCode L k.data.toList v.data.toList g)) := by
  have hn3 : ((n : Int) < 4) := by omega
  go_enter Tryz.func40, Tryz.ntmps40
  go_wp2_with (go_at_call 41; refine (of_yes _ _ hk).mono ?_; rintro e w1 ⟨rfl, hb⟩; rw [hkn])
  obtain ⟨hc1, hb0⟩ := ChW.of hp hb
  clear hb hp
  have HB0 := Lib.hid hb0
  have HC1 := Lib.hid hc1
  obtain ⟨c0, c1, c2, pd, pv, pm, pl⟩ := id hc1
  clear hb0 hc1 pl
  go_region_held3 (fun w' => w'.cell? ⟨cl, 1 + n * 3 + 1, none⟩ = some (.pointer (some ⟨db, 0, none⟩)) ∧ w'.cell? ⟨w.heap.size, 0, none⟩ = some (.string k) ∧ Hid (ChW w.heap.size cl n db mb none L k v g w' ∧ Below w.heap.size w w'))
    (first | exact ⟨pd, c0, Lib.hid ⟨HC1.out.drew, HB0.out.drew⟩⟩ | exact ⟨(HC2.out.1).d, (HC2.out.1).c0, HC2⟩)
    (first | (go_at_call 42; refine (get_held (by assumption) hks).mono ?_; rintro e w2 ⟨rfl, hc2⟩; have HC2 := Lib.hid hc2; clear hc2))
  obtain ⟨has, hhas⟩ : ∃ b, (kvFind L k.data.toList).isSome = b := ⟨_, rfl⟩
  rw [hhas]
  have HF := Lib.hid hhas
  clear hhas
  generalize sv ((kvFind L k.data.toList).getD []) = gv
  obtain ⟨e0, e1, e2, ed, ev, em, el⟩ := HC2.out.1
  have EL := Lib.hid el
  have HB2 := Lib.hid (But.of_below (B := (· = mb)) HC2.out.2)
  clear el
  by_cases hbig : 12 < v.size
  · have HE := Lib.hid (ch_big (L := L) (k := k.data.toList) (g := g) (v := v.data.toList) (by simpa using hbig))
    have g1 : decide ((12 : Int) < v.size) = true := by simp; omega
    go_wp2
    go_ret
    exact ⟨by rw [HE.out.1]; rfl, by rw [HE.out.2]; exact EL.out, HB2.out⟩
  have HG := Lib.hid (ch_not (L := L) (k := k.data.toList) (g := g) (v := v.data.toList) (by simpa using hbig))
  rw [HF.out] at HG
  have g1 : decide ((12 : Int) < v.size) = false := by simp; omega
  cases g
  · cases has
    · by_cases hfull : L.length = 12
      · have HE := Lib.hid (HG.out.1 rfl rfl hfull)
        go_wp2_with (go_at_call 68; refine (len_c2 em EL.out).mono ?_; rintro e w' ⟨rfl, rfl⟩)
        go_ret
        exact ⟨by rw [HE.out.1]; rfl, by rw [HE.out.2]; exact EL.out, HB2.out⟩
      · have HE := Lib.hid (HG.out.2.1 rfl (.inr hfull))
        go_wp2_with (go_at_call 68; refine (len_c2 em EL.out).mono ?_; rintro e w' ⟨rfl, rfl⟩)
        refine wp_region_still_tail 5 (by kernel_rfl) (by kernel_rfl) ?_
        change wpStill _ _ w2.drew (fun a' => wpList _ _ _ _ a' w2.drew) _ _
        simp only [List.take_succ_cons, List.take_zero, List.drop_succ_cons, List.drop_zero]
        repeat still_step
        refine wpStill_nil ?_
        go_wp2_with (go_at_call 69; refine (do_put (w := w2.drew) em (EL.out.block rfl) (by omega) k v hks).mono ?_; rintro e w3 ⟨rfl, hm3, hb3⟩; have HC3 := Lib.hid (HC2.out.1.drew.but hb3 hm3); have HB3 := Lib.hid (HB2.out.drew.trans hb3); obtain ⟨f0, f1, f2, fd, fv, fm, fl⟩ := HC3.out; clear fl hm3 hb3)
        go_ret
        exact ⟨by rw [HE.out.1]; rfl, by rw [HE.out.2]; exact HC3.out.l, HB3.out⟩
    · have HE := Lib.hid (HG.out.2.1 rfl (.inl rfl))
      go_wp2
      refine wp_region_still_tail 5 (by kernel_rfl) (by kernel_rfl) ?_
      change wpStill _ _ w2.drew (fun a' => wpList _ _ _ _ a' w2.drew) _ _
      simp only [List.take_succ_cons, List.take_zero, List.drop_succ_cons, List.drop_zero]
      repeat still_step
      refine wpStill_nil ?_
      go_wp2_with (go_at_call 69; refine (do_put (w := w2.drew) em (EL.out.block rfl) (by omega) k v hks).mono ?_; rintro e w3 ⟨rfl, hm3, hb3⟩; have HC3 := Lib.hid (HC2.out.1.drew.but hb3 hm3); have HB3 := Lib.hid (HB2.out.drew.trans hb3); obtain ⟨f0, f1, f2, fd, fv, fm, fl⟩ := HC3.out; clear fl hm3 hb3)
      go_ret
      exact ⟨by rw [HE.out.1]; rfl, by rw [HE.out.2]; exact HC3.out.l, HB3.out⟩
  · cases has
    · have HE := Lib.hid (HG.out.2.2.1 rfl rfl)
      go_wp2
      go_ret
      exact ⟨by rw [HE.out.1]; rfl, by rw [HE.out.2]; exact EL.out, HB2.out⟩
    · have HE := Lib.hid (HG.out.2.2.2 rfl rfl)
      go_wp2
      refine wp_region_still_tail 5 (by kernel_rfl) (by kernel_rfl) ?_
      change wpStill _ _ w2.drew (fun a' => wpList _ _ _ _ a' w2.drew) _ _
      simp only [List.take_succ_cons, List.take_zero, List.drop_succ_cons, List.drop_zero]
      repeat still_step
      refine wpStill_nil ?_
      go_wp2_with (go_at_call 69; refine (do_del (w := w2.drew) em (EL.out.block rfl) k v hks).mono ?_; rintro e w3 ⟨rfl, hm3, hb3⟩; have HC3 := Lib.hid (HC2.out.1.drew.but hb3 hm3); have HB3 := Lib.hid (HB2.out.drew.trans hb3); obtain ⟨f0, f1, f2, fd, fv, fm, fl⟩ := HC3.out; clear fl hm3 hb3)
      go_ret
      exact ⟨by rw [HE.out.1]; rfl, by rw [HE.out.2]; exact HC3.out.l, HB3.out⟩
end
end Go.Proofs.YtkpekiajdlolnabGreat

/-
  CONTRACTS (lone), fifth text: Put, Delete, Get of the cluster, where nothing moves.
-/
namespace Go.Proofs.YtkpekiajdlolnabGreat
open Go.RowKit Go.Maps

/-- the cells of a cluster whose shards are at rest. -/
structure Clu (w : World) (cl : Nat) (db mb : Nat → Nat) (L : Nat → KV) : Prop where
  p : ∀ i, i < 4 → PartAt w cl i (db i) (mb i) none (L i)
  ne : ∀ i j, i < 4 → j < 4 → mb i = mb j → i = j
  len : ∀ i, i < 4 → (L i).length ≤ 12
def setKV (L : Nat → KV) (n : Nat) (x : KV) : Nat → KV := fun i => if i = n then x else L i
/-- what a change comes to, keys that are none too. -/
def chAll (L : Nat → KV) (k v : Bs) (g : Bool) : Int := if keyB k then chCode (L (shardOf k)) k v g else 2
def chState (L : Nat → KV) (k v : Bs) (g : Bool) : Nat → KV := if keyB k then setKV L (shardOf k) (chL (L (shardOf k)) k v g) else L
theorem shardOf_lt (k : Bs) : shardOf k < 4 := by
  unfold shardOf shd
  split
  · decide
  · split
    · decide
    · split <;> decide
theorem chL_len {L : KV} {k v : Bs} {g : Bool} (h : L.length ≤ 12) : (chL L k v g).length ≤ 12 := by
  unfold chL
  split
  · rename_i hc
    split
    · exact Nat.le_trans (del_le L k) h
    · rename_i hg
      have hg : g = false := by simpa using hg
      subst hg
      by_cases hh : (kvFind L k).isSome = true
      · exact Nat.le_trans (put_has hh) h
      · have hh : (kvFind L k).isSome = false := by simpa using hh
        have := put_le L k v
        unfold chCode at hc
        rw [hh] at hc
        split at hc
        · cases hc
        · by_cases h12 : L.length = 12
          · simp [h12] at hc
          · omega
  · exact h
section
variable {w w' : World} {cl : Nat} {db mb : Nat → Nat} {L : Nat → KV}
theorem cell_ne_map {b o m : Nat} {x : Value} {L : KV} (hx : w.cell? ⟨b, o, none⟩ = some x) (hm : MapKV w m L) : b ≠ m := fun e => by
  obtain ⟨es, ck, hb, _⟩ := hm
  subst e
  unfold World.cell? at hx
  rw [hb] at hx
  cases hx
theorem Clu.but {n : Nat} {x : KV} (h : Clu w cl db mb L) (hn : n < 4) (hb : But (· = mb n) w w') (hm : MapKV w' (mb n) x) (hx : x.length ≤ 12) : Clu w' cl db mb (setKV L n x) := by
  refine ⟨fun i hi => ?_, h.ne, fun i hi => ?_⟩
  · have hp := h.p i hi
    have keep : ∀ b, b < w.heap.size → b ≠ mb n → w'.heap[b]? = w.heap[b]? := fun b h1 h2 => hb.keep b h1 h2
    have hl := hp.lt
    have c := keep cl hl.1 (cell_ne_map hp.d (h.p n hn).l)
    have d := keep (db i) hl.2.1 (cell_ne_map hp.m (h.p n hn).l)
    unfold setKV
    by_cases e : i = n
    · rw [if_pos e]
      subst e
      exact ⟨(World.cell?_of_block c).trans hp.d, (World.cell?_of_block c).trans hp.v, (World.cell?_of_block d).trans hp.m, hm⟩
    · rw [if_neg e]
      have m := keep (mb i) hl.2.2 fun e2 => e (h.ne i n hi hn e2)
      exact hp.block fun b hb => by rcases hb with rfl | rfl | rfl <;> assumption
  · unfold setKV
    split
    · exact hx
    · exact h.len i hi
theorem Clu.below (h : Clu w cl db mb L) (hb : Below w.heap.size w w') : Clu w' cl db mb L := ⟨fun i hi => (h.p i hi).below hb, h.ne, h.len⟩
/-- the contract's end: the answer, the shards, and that nothing else has turned. -/
def CluPost (w : World) (cl : Nat) (db mb : Nat → Nat) (L : Nat → KV) (c : Int) (e : Ending) (w' : World) : Prop := e = .returned (.int .i64 c) ∧ Clu w' cl db mb L ∧ But (fun b => ∃ i, i < 4 ∧ b = mb i) w w'
theorem change_c (h : Clu w cl db mb L) (k v : ByteArray) (g : Bool) (hs : k.size ≤ maxLen) :
    Calls Tryz.prog 40 #[.pointer (some ⟨cl, 0, none⟩), .agg #[.string k, .string v, .bool g]] w (CluPost w cl db mb (chState L k.data.toList v.data.toList g) (chAll L k.data.toList v.data.toList g)) := by
  cases hk : keyB k.data.toList
  · refine (change_key k v g hk hs).mono fun e w' ⟨h1, h2⟩ => ?_
    unfold chState chAll
    rw [hk]
    exact ⟨h1, h.below h2, .of_below h2⟩
  · have hn := shardOf_lt k.data.toList
    refine (change_yes k v g _ hn hk rfl hs (h.len _ hn) (h.p _ hn)).mono fun e w' ⟨h1, h2, h3⟩ => ?_
    unfold chState chAll
    rw [hk]
    exact ⟨h1, h.but hn h3 h2 (chL_len (h.len _ hn)), h3.mono fun b e => ⟨_, hn, e⟩⟩
set_option maxRecDepth 100000 in
theorem put_c (h : Clu w cl db mb L) (k v : ByteArray) (hs : k.size ≤ maxLen) :
    Calls Tryz.prog 18 #[.pointer (some ⟨cl, 0, none⟩), .string k, .string v] w (CluPost w cl db mb (chState L k.data.toList v.data.toList false) (chAll L k.data.toList v.data.toList false)) := by
  have hc := change_c h k v false hs
  generalize chState L k.data.toList v.data.toList false = L' at *
  generalize chAll L k.data.toList v.data.toList false = c at *
  go_enter Tryz.func18, Tryz.ntmps18
  go_wp2_with (go_at_call 40; refine hc.mono ?_; rintro e w' ⟨rfl, h2⟩)
  go_ret
  exact ⟨rfl, h2⟩
set_option maxRecDepth 100000 in
theorem delete_c (h : Clu w cl db mb L) (k : ByteArray) (hs : k.size ≤ maxLen) :
    Calls Tryz.prog 25 #[.pointer (some ⟨cl, 0, none⟩), .string k] w (CluPost w cl db mb (chState L k.data.toList [] true) (chAll L k.data.toList [] true)) := by
  have hc := change_c h k ⟨#[]⟩ true hs
  rw [show (⟨#[]⟩ : ByteArray).data.toList = [] from rfl] at hc
  generalize chState L k.data.toList [] true = L' at *
  generalize chAll L k.data.toList [] true = c at *
  go_enter Tryz.func25, Tryz.ntmps25
  go_wp2_with (go_at_call 40; refine hc.mono ?_; rintro e w' ⟨rfl, h2⟩)
  go_ret
  exact ⟨rfl, h2⟩
/-- what Get answers. -/
def getV (L : Nat → KV) (k : Bs) : Bs := if keyB k then (kvFind (L (shardOf k)) k).getD [] else []
def getE (L : Nat → KV) (k : Bs) : Int := if keyB k then (if (kvFind (L (shardOf k)) k).isSome then 0 else 6) else 2
def GetsPost (w : World) (v : Bs) (c : Int) (e : Ending) (w' : World) : Prop := e = .returned (.tuple #[sv v, .int .i64 c]) ∧ Below w.heap.size w w'
set_option maxRecDepth 100000 in
theorem get_all (h : Clu w cl db mb L) (k : ByteArray) (hs : k.size ≤ maxLen) :
    Calls Tryz.prog 19 #[.pointer (some ⟨cl, 0, none⟩), .string k] w (GetsPost w (getV L k.data.toList) (getE L k.data.toList)) := by
  have HH := Lib.hid h
  clear h
  cases hk : keyB k.data.toList
  · have HK := Lib.hid hk
    clear hk
    go_enter Tryz.func19, Tryz.ntmps19
    go_wp2_with (go_at_call 41; refine (of_no _ _ HK.out hs).mono ?_; rintro e w1 ⟨rfl, hb⟩)
    go_ret2
    unfold getV getE
    rw [HK.out]
    exact ⟨rfl, hb⟩
  · have HK := Lib.hid hk
    clear hk
    have hn := shardOf_lt k.data.toList
    have hp := HH.out.p _ hn
    have HG : Hid (getV L k.data.toList = (kvFind (L (shardOf k.data.toList)) k.data.toList).getD [] ∧ getE L k.data.toList = if (kvFind (L (shardOf k.data.toList)) k.data.toList).isSome then 0 else 6) := by
      unfold getV getE; rw [HK.out]; exact ⟨rfl, rfl⟩
    generalize hnn : shardOf k.data.toList = n at *
    have HN := Lib.hid hnn
    have HP := Lib.hid hp
    obtain ⟨x, hx⟩ : ∃ x, kvFind (L n) k.data.toList = x := ⟨_, rfl⟩
    rw [hx] at HG
    have HX := Lib.hid hx
    clear hp hnn hx
    have hn3 : ((n : Int) < 4) := by omega
    cases x
    all_goals
      go_enter Tryz.func19, Tryz.ntmps19
      go_wp2_with (first
        | (go_at_call 41; refine (of_yes _ _ HK.out).mono ?_; rintro e w1 ⟨rfl, hb⟩; rw [HN.out]; have HP1 := Lib.hid (HP.out.below hb); have HB1 := Lib.hid hb; obtain ⟨pd, pv, pm, pl⟩ := HP1.out; clear hb pl)
        | (go_at_call 42; refine (get_c pm HP1.out.l k hs).mono ?_; rintro e w2 ⟨rfl, hb2⟩; rw [HX.out]; have HB2 := Lib.hid (HB1.out.trans (hb2.mono HB1.out.size)); clear hb2))
      go_ret2
      exact ⟨by rw [HG.out.1, HG.out.2]; rfl, HB2.out⟩
end
end Go.Proofs.YtkpekiajdlolnabGreat

/-
  CONTRACTS OF THE DOCUMENT's SIDE (lone), fourth text: Change, Get, where nothing moves.
-/
namespace Go.Proofs.YtkpekiajdlolnabGreat
open Go.RowKit Go.Maps

/-- the document's cluster, where nothing moves. -/
structure Mdl (w : World) (ml sb : Nat) (lv : Nat → Value) (L : Nat → KV) : Prop where
  s : ∃ cap, w.cell? ⟨ml, 1, none⟩ = some (.slice (some ⟨sb, 0, none⟩) 4 cap)
  t : ∃ mc, w.heap[ml]? = some (.cells mc 101 (0, 0))
  b : ∃ cur, w.heap[sb]? = some (.cells cur 104 (0, 0)) ∧ ∀ i, i < 4 → cur[i * 3 + 1]? = some (lv i) ∧ cur[i * 3 + 2]? = some (.pointer none) ∧ ∃ o : Int, cur[i * 3]? = some (.int .i64 o)
  r : ∀ i, i < 4 → RowKV w 0 (lv i) (L i)
def setV {α : Type} (L : Nat → α) (n : Nat) (x : α) : Nat → α := fun i => if i = n then x else L i
section
variable {w w' : World} {ml sb : Nat} {lv : Nat → Value} {L : Nat → KV}
theorem Mdl.lts (h : Mdl w ml sb lv L) : ml < w.heap.size ∧ sb < w.heap.size := by
  obtain ⟨mc, h1⟩ := h.t
  obtain ⟨cur, h2, _⟩ := h.b
  exact ⟨(Array.getElem?_eq_some_iff.1 h1).1, (Array.getElem?_eq_some_iff.1 h2).1⟩
theorem Mdl.cl (h : Mdl w ml sb lv L) {i : Nat} (hi : i < 4) : w.cell? ⟨sb, i * 3 + 1, none⟩ = some (lv i) ∧ w.cell? ⟨sb, i * 3 + 2, none⟩ = some (.pointer none) ∧ w.frozen? ⟨sb, i * 3 + 1, none⟩ = false := by
  obtain ⟨cur, h1, h2⟩ := h.b
  obtain ⟨h3, h4, _⟩ := h2 i hi
  exact ⟨by simp [World.cell?, h1, h3], by simp [World.cell?, h1, h4], by simp [World.frozen?, h1]⟩
theorem Mdl.owner (h : Mdl w ml sb lv L) {i : Nat} (hi : i < 4) : ∃ o : Int, w.cell? ⟨sb, i * 3, none⟩ = some (.int .i64 o) := by
  obtain ⟨cur, h1, h2⟩ := h.b
  obtain ⟨_, _, o, h3⟩ := h2 i hi
  exact ⟨o, by simp [World.cell?, h1, h3]⟩
theorem RowKV.block {v : Value} {l : KV} (h : RowKV w 0 v l) (k : ∀ g, v.ownBlock = some g → w'.heap[g]? = w.heap[g]?) : RowKV w' 0 v l := by
  refine ⟨⟨h.1.1, h.1.2.imp id ?_⟩, h.2.block k⟩
  rintro ⟨g, cap, cur, rfl, h1, h2, h3⟩
  exact ⟨g, cap, cur, rfl, h1, (k g rfl).trans h2, h3⟩
theorem RowKV.ty {v : Value} {l : KV} {b : Nat} (h : RowKV w b v l) {g : Nat} (hg : v.ownBlock = some g) : ∃ cur, w.heap[g]? = some (.cells cur 74 (0, 0)) := by
  rcases h.1.2 with ⟨rfl, _⟩ | ⟨g', cap, cur, rfl, _, h2, _⟩
  · cases hg
  · cases hg; exact ⟨cur, h2⟩
theorem Mdl.below (h : Mdl w ml sb lv L) (hb : Below w.heap.size w w') : Mdl w' ml sb lv L := by
  obtain ⟨l1, l2⟩ := h.lts
  obtain ⟨cap, h1⟩ := h.s
  obtain ⟨mc, h2⟩ := h.t
  obtain ⟨cur, h3, h4⟩ := h.b
  exact ⟨⟨cap, (hb.cell l1).trans h1⟩, ⟨mc, (hb.block _ l1).trans h2⟩, ⟨cur, (hb.block _ l2).trans h3, h4⟩, fun i hi => (h.r i hi).block fun g hg => hb.block g (let ⟨c, e⟩ := (h.r i hi).ty hg; (Array.getElem?_eq_some_iff.1 e).1)⟩
/-- a shard's list is put in its place. -/
theorem Mdl.store (h : Mdl w ml sb lv L) {n : Nat} (hn : n < 4) {v : Value} {x : KV} (hv : RowKV w 0 v x) : Mdl (w.setCell ⟨sb, n * 3 + 1, none⟩ v) ml sb (setV lv n v) (setV L n x) := by
  obtain ⟨cap, h1⟩ := h.s
  obtain ⟨mc, h2⟩ := h.t
  obtain ⟨cur, h3, h4⟩ := h.b
  have hne : ml ≠ sb := fun e => by rw [e, h3] at h2; cases h2
  have hs := heap_setCell_same w sb (n * 3 + 1) cur 104 v h3
  have ho : ∀ b, b ≠ sb → (w.setCell ⟨sb, n * 3 + 1, none⟩ v).heap[b]? = w.heap[b]? := fun b hb => heap_setCell_other w _ b v hb
  have hrow : ∀ {u : Value} {l : KV}, RowKV w 0 u l → RowKV (w.setCell ⟨sb, n * 3 + 1, none⟩ v) 0 u l := fun {u l} hr => hr.block fun g hg => ho g fun e => by
    obtain ⟨c, hc⟩ := hr.ty hg
    rw [e, h3] at hc
    cases hc
  refine ⟨⟨cap, (World.cell?_of_block (ho ml hne)).trans h1⟩, ⟨mc, (ho ml hne).trans h2⟩, ⟨_, hs, fun i hi => ?_⟩, fun i hi => ?_⟩
  · obtain ⟨h5, h6, o, h7⟩ := h4 i hi
    have hsz : i * 3 + 1 < cur.size := (Array.getElem?_eq_some_iff.1 h5).1
    unfold setV
    refine ⟨?_, ?_, o, ?_⟩
    · by_cases e : i = n
      · subst e
        rw [if_pos rfl, Array.getElem?_setIfInBounds_self_of_lt hsz]
      · rw [if_neg e, Array.getElem?_setIfInBounds_ne (by omega), h5]
    · rw [Array.getElem?_setIfInBounds_ne (by omega), h6]
    · rw [Array.getElem?_setIfInBounds_ne (by omega), h7]
  · unfold setV
    by_cases e : i = n
    · rw [if_pos e, if_pos e]; exact hrow hv
    · rw [if_neg e, if_neg e]; exact hrow (h.r i hi)
/-- done, at whatever list. -/
theorem done_row {v : Value} {l : KV} (hr : RowKV w 0 v l) (hl : l.length ≤ 1073741822) (hri : Rising l) (k x : ByteArray) (g : Bool) (hg : g = true → atHas l k.data.toList = true) :
    Calls Tryz.prog 52 #[v, .agg #[.string k, .string x, .bool g]] w (DonePost w (if g then kvDel l k.data.toList else kvPut l k.data.toList x.data.toList)) := by
  obtain ⟨a1, a2, a3, a4, a5⟩ := at_spec hri k.data.toList
  have e : (if g then kvDel l k.data.toList else kvPut l k.data.toList x.data.toList) = kvDone l k.data.toList x.data.toList g := by
    cases g
    · exact (a5 _).symm
    · exact (a4 _).symm
  rw [e]
  rcases hr.1.2 with ⟨rfl, hz⟩ | ⟨b, cap, cur, rfl, _, _, hc, _⟩
  · obtain rfl : l = [] := List.eq_nil_of_length_eq_zero hz
    cases g
    · exact done_nil k x
    · have := hg rfl; simp [atHas] at this
  · refine done_some k x g hr hc hl rfl rfl a1 fun h => ?_
    rw [a2] at h
    obtain ⟨v, hv⟩ := Option.isSome_iff_exists.1 h
    exact (List.getElem?_eq_some_iff.1 (a3 v hv)).1
end
end Go.Proofs.YtkpekiajdlolnabGreat

/-
  CONTRACTS OF THE DOCUMENT's SIDE (lone), fifth text: Change.
-/
namespace Go.Proofs.YtkpekiajdlolnabGreat
open Go.RowKit Go.Maps

theorem But.setCell {B : Nat → Prop} {w w' : World} {b : Nat} (h : But B w w') (hb : B b) (o : Nat) (v : Value) : But B w (w'.setCell ⟨b, o, none⟩ v) :=
  ⟨by simpa using h.size, fun k hk hn => (heap_setCell_other w' _ k v fun e => hn (by subst e; exact hb)).trans (h.keep k hk hn), h.os, h.output⟩
def MdlPost (w : World) (ml sb : Nat) (L : Nat → KV) (c : Int) (e : Ending) (w' : World) : Prop := e = .returned (.int .i64 c) ∧ (∃ lv, Mdl w' ml sb lv L) ∧ But (· = sb) w w'
section
variable {w : World} {ml sb : Nat} {lv : Nat → Value} {L : Nat → KV}
theorem at_held {W : World} {n : Nat} {k : ByteArray} {x : ByteArray} {g : Bool} {w1 : World} {A B : Prop} (h : A ∧ B ∧ Hid (Mdl w1 ml sb lv L ∧ CA W.heap.size k x g w1 ∧ Below W.heap.size W w1 ∧ W.heap.size < w1.heap.size)) (hn : n < 4) (hL : (L n).length ≤ 12) :
    Calls Tryz.prog 51 #[lv n, .string k] w1 fun e w' => (e = .returned (.tuple #[.int .i64 (atIx (L n) k.data.toList), .bool (atHas (L n) k.data.toList)])) ∧ Mdl w' ml sb lv L ∧ CA W.heap.size k x g w' ∧ Below W.heap.size W w' ∧ W.heap.size < w'.heap.size :=
  (at_row (h.2.2.out.1.r n hn).1 (by omega) k).mono fun e w' ⟨h1, h2⟩ => ⟨h1, h.2.2.out.1.below h2, ⟨(h2.cell h.2.2.out.2.2.2).trans h.2.2.out.2.1.c0, (h2.cell h.2.2.out.2.2.2).trans h.2.2.out.2.1.c1, (h2.cell h.2.2.out.2.2.2).trans h.2.2.out.2.1.c2⟩, h.2.2.out.2.2.1.trans (h2.mono h.2.2.out.2.2.1.size), Nat.lt_of_lt_of_le h.2.2.out.2.2.2 h2.size⟩
theorem setV_self {α : Type} (L : Nat → α) (n : Nat) : setV L n (L n) = L := by
  funext i; unfold setV; split
  · rename_i h; rw [h]
  · rfl
theorem row_shape {v : Value} {l : KV} {b : Nat} (h : RowKV w b v l) : ∃ sa cp, v = .slice sa l.length cp := by
  rcases h.1.2 with ⟨rfl, hz⟩ | ⟨g, cap, cur, rfl, _⟩
  · exact ⟨none, 0, by rw [hz]⟩
  · exact ⟨_, _, rfl⟩
theorem RowKV.to0 {v : Value} {l : KV} {b : Nat} (h : RowKV w b v l) : RowKV w 0 v l := row_end h.1 h.2 (Nat.zero_le _) rfl
theorem done_at {W : World} {n : Nat} {k v : ByteArray} {g : Bool} {w1 : World} {sa : Option Addr} {cp : Nat} (h : Mdl w1 ml sb lv L ∧ CA W.heap.size k v g w1 ∧ Below W.heap.size W w1 ∧ W.heap.size < w1.heap.size) (hn : n < 4) (hv : lv n = .slice sa (L n).length cp) (hL : (L n).length ≤ 12) (hri : Rising (L n)) (hg : g = true → (kvFind (L n) k.data.toList).isSome = true) (d : Nat) :
    Calls Tryz.prog 52 #[.slice sa (L n).length cp, .agg #[.string k, .string v, .bool g]] (w1.drewN d) fun e w' => ∃ sa' nn cp', e = .returned (.slice sa' nn cp') ∧ Mdl w' ml sb lv L ∧ RowKV w' 0 (.slice sa' nn cp') (if g then kvDel (L n) k.data.toList else kvPut (L n) k.data.toList v.data.toList) ∧ Below W.heap.size W w' := by
  have hm : Mdl (w1.drewN d) ml sb lv L := h.1.below (Below.drewN' (Below.refl _ _) d)
  have hr := hm.r n hn
  rw [hv] at hr
  refine (done_row hr (by omega) hri k v g fun e => by rw [(at_spec hri k.data.toList).2.1]; exact hg e).mono ?_
  rintro e w' ⟨v', rfl, h1, h2⟩
  obtain ⟨sa', cp', rfl⟩ := row_shape h1
  exact ⟨sa', _, cp', rfl, hm.below h2, h1.to0, (Below.drewN' h.2.2.1 d).trans (h2.mono h.2.2.1.size)⟩
set_option maxRecDepth 100000 in
theorem rchange_no (k v : ByteArray) (g : Bool) (h : keyB k.data.toList = false) : Calls Tryz.prog 24 #[.pointer (some ⟨ml, 0, none⟩), .agg #[.string k, .string v, .bool g]] w (RetB 2 w) := by
  go_enter Tryz.func24, Tryz.ntmps24
  go_wp2_with (go_at_call 50; refine (rof_no _ h).mono ?_; rintro e w1 ⟨rfl, hb⟩)
  go_ret
  exact ⟨rfl, ((Below.refl _ _).alloc (Nat.le_refl _) _).trans (hb.mono (by simp))⟩
set_option maxRecDepth 100000 in
set_option maxHeartbeats 1000000 in
theorem rchange_yes (k v : ByteArray) (g : Bool) (n : Nat) (hn : n < 4) (hk : keyB k.data.toList = true) (hkn : shardOf k.data.toList = n) (hL : (L n).length ≤ 12) (hri : Rising (L n)) (hm : Mdl w ml sb lv L) :
    Calls Tryz.prog 24 #[.pointer (some ⟨ml, 0, none⟩), .agg #[.string k, .string v, .bool g]] w (MdlPost w ml sb (setV L n (chL (L n) k.data.toList v.data.toList g)) (chCode (L n) k.data.toList v.data.toList g)) := by
  have hn3 : ((n : Int) < 4) := by omega
  have HM := Lib.hid hm
  have HR := Lib.hid hri
  clear hm hri
  go_enter Tryz.func24, Tryz.ntmps24
  go_wp2_with (go_at_call 50; refine (rof_yes _ hk).mono ?_; rintro e w1 ⟨rfl, hb⟩; rw [hkn]; have H1 := Lib.hid (CA.of hb); have M1 := Lib.hid (HM.out.below H1.out.2.1); obtain ⟨cap, ms⟩ := M1.out.s; obtain ⟨m1, m2, m3⟩ := M1.out.cl hn; obtain ⟨c0, c1, c2⟩ := H1.out.1; clear hb)
  go_region_held3 (fun w' => w'.cell? ⟨sb, n * 3 + 1, none⟩ = some (lv n) ∧ w'.cell? ⟨w.heap.size, 0, none⟩ = some (.string k) ∧ Hid (Mdl w' ml sb lv L ∧ CA w.heap.size k v g w' ∧ Below w.heap.size w w' ∧ w.heap.size < w'.heap.size))
    (first | exact ⟨m1, c0, Lib.hid ⟨M1.out.below (Below.drew (Below.refl _ _)), ⟨c0, c1, c2⟩, H1.out.2.1.drew, H1.out.2.2⟩⟩ | exact ⟨(H2.out.1.cl hn).1, H2.out.2.1.c0, H2⟩)
    (first | (go_at_call 51; refine (at_held (by assumption) hn hL).mono ?_; rintro e w2 ⟨rfl, h2⟩; have H2 := Lib.hid h2; clear h2))
  have HA := Lib.hid (at_spec HR.out k.data.toList)
  rw [HA.out.2.1]
  obtain ⟨has, hhas⟩ : ∃ b, (kvFind (L n) k.data.toList).isSome = b := ⟨_, rfl⟩
  rw [hhas]
  have HF := Lib.hid hhas
  clear hhas
  obtain ⟨sa, cp, hv⟩ := row_shape (H2.out.1.r n hn)
  have HV := Lib.hid hv
  obtain ⟨e0, e1, e2⟩ := H2.out.2.1
  obtain ⟨p1, p2, p3⟩ := H2.out.1.cl hn
  rw [hv] at p1
  clear hv
  have HB2 := Lib.hid (But.of_below (B := (· = sb)) H2.out.2.2.1)
  by_cases hbig : 12 < v.size
  · have HE := Lib.hid (ch_big (L := L n) (k := k.data.toList) (g := g) (v := v.data.toList) (by simpa using hbig))
    have g1 : decide ((12 : Int) < v.size) = true := by simp; omega
    go_wp2
    go_ret
    exact ⟨by rw [HE.out.1]; rfl, ⟨lv, by rw [HE.out.2, setV_self]; exact H2.out.1⟩, HB2.out⟩
  have HG := Lib.hid (ch_not (L := L n) (k := k.data.toList) (g := g) (v := v.data.toList) (by simpa using hbig))
  rw [HF.out] at HG
  have g1 : decide ((12 : Int) < v.size) = false := by simp; omega
  cases g
  · cases has
    · by_cases hfull : (L n).length = 12
      · have HE := Lib.hid (HG.out.1 rfl rfl hfull)
        have g2 : decide ((12 : Int) ≤ ((L n).length : Int)) = true := by simp; omega
        go_wp2
        go_ret
        exact ⟨by rw [HE.out.1]; rfl, ⟨lv, by rw [HE.out.2, setV_self]; exact H2.out.1⟩, HB2.out⟩
      · have HE := Lib.hid (HG.out.2.1 rfl (.inr hfull))
        have g2 : decide ((12 : Int) ≤ ((L n).length : Int)) = false := by simp; omega
        go_wp2
        go_region_with (first | (go_at_call 52; refine (done_at (d := 1) H2.out hn HV.out hL HR.out (fun h => by cases h)).mono ?_; rintro e w3 ⟨sa3, n3, cp3, rfl, h3⟩; have H3 := Lib.hid h3; obtain ⟨q1, q2, q3⟩ := H3.out.1.cl hn; clear h3))
        all_goals go_wp2
        all_goals go_ret
        all_goals exact ⟨by rw [HE.out.1]; rfl, ⟨_, by rw [HE.out.2]; exact H3.out.1.store hn H3.out.2.1⟩, But.setCell (B := (· = sb)) (But.of_below H3.out.2.2) rfl _ _⟩
    · have HE := Lib.hid (HG.out.2.1 rfl (.inl rfl))
      go_wp2
      go_region_with (first | (go_at_call 52; refine (done_at (d := 1) H2.out hn HV.out hL HR.out (fun h => by cases h)).mono ?_; rintro e w3 ⟨sa3, n3, cp3, rfl, h3⟩; have H3 := Lib.hid h3; obtain ⟨q1, q2, q3⟩ := H3.out.1.cl hn; clear h3))
      all_goals go_wp2
      all_goals go_ret
      all_goals exact ⟨by rw [HE.out.1]; rfl, ⟨_, by rw [HE.out.2]; exact H3.out.1.store hn H3.out.2.1⟩, But.setCell (B := (· = sb)) (But.of_below H3.out.2.2) rfl _ _⟩
  · cases has
    · have HE := Lib.hid (HG.out.2.2.1 rfl rfl)
      go_wp2
      go_ret
      exact ⟨by rw [HE.out.1]; rfl, ⟨lv, by rw [HE.out.2, setV_self]; exact H2.out.1⟩, HB2.out⟩
    · have HE := Lib.hid (HG.out.2.2.2 rfl rfl)
      go_wp2
      go_region_with (first | (go_at_call 52; refine (done_at (d := 1) H2.out hn HV.out hL HR.out (fun _ => HF.out)).mono ?_; rintro e w3 ⟨sa3, n3, cp3, rfl, h3⟩; have H3 := Lib.hid h3; obtain ⟨q1, q2, q3⟩ := H3.out.1.cl hn; clear h3))
      all_goals go_wp2
      all_goals go_ret
      all_goals exact ⟨by rw [HE.out.1]; rfl, ⟨_, by rw [HE.out.2]; exact H3.out.1.store hn H3.out.2.1⟩, But.setCell (B := (· = sb)) (But.of_below H3.out.2.2) rfl _ _⟩
end
end Go.Proofs.YtkpekiajdlolnabGreat

/-
  CONTRACTS OF THE DOCUMENT's SIDE (lone), sixth text: Change whole; Get.
-/
namespace Go.Proofs.YtkpekiajdlolnabGreat
open Go.RowKit Go.Maps

section
variable {w : World} {ml sb : Nat} {lv : Nat → Value} {L : Nat → KV}
theorem rchange_c (k v : ByteArray) (g : Bool) (hL : ∀ i, i < 4 → (L i).length ≤ 12) (hri : ∀ i, i < 4 → Rising (L i)) (hm : Mdl w ml sb lv L) :
    Calls Tryz.prog 24 #[.pointer (some ⟨ml, 0, none⟩), .agg #[.string k, .string v, .bool g]] w (MdlPost w ml sb (chState L k.data.toList v.data.toList g) (chAll L k.data.toList v.data.toList g)) := by
  cases hk : keyB k.data.toList
  · refine (rchange_no k v g hk).mono fun e w' ⟨h1, h2⟩ => ?_
    unfold chState chAll
    rw [hk]
    exact ⟨h1, ⟨lv, hm.below h2⟩, .of_below h2⟩
  · have hn := shardOf_lt k.data.toList
    have := rchange_yes k v g _ hn hk rfl (hL _ hn) (hri _ hn) hm
    unfold chState chAll
    rw [hk]
    exact this
/-- at, in the cluster's world. -/
theorem at_mdl {W : World} {n : Nat} {k : ByteArray} {w1 : World} {v : Value} (h : Mdl w1 ml sb lv L) (hb : Below W.heap.size W w1) (hn : n < 4) (hv : lv n = v) (hL : (L n).length ≤ 12) :
    Calls Tryz.prog 51 #[v, .string k] w1 fun e w' => (e = .returned (.tuple #[.int .i64 (atIx (L n) k.data.toList), .bool (atHas (L n) k.data.toList)])) ∧ Mdl w' ml sb lv L ∧ Below W.heap.size W w' := by
  subst hv
  exact (at_row (h.r n hn).1 (by omega) k).mono fun e w' ⟨h1, h2⟩ => ⟨h1, h.below h2, hb.trans (h2.mono hb.size)⟩
set_option maxRecDepth 100000 in
theorem rget_no (k : ByteArray) (h : keyB k.data.toList = false) : Calls Tryz.prog 26 #[.pointer (some ⟨ml, 0, none⟩), .string k] w (GetsPost w [] 2) := by
  go_enter Tryz.func26, Tryz.ntmps26
  go_wp2_with (go_at_call 50; refine (rof_no _ h).mono ?_; rintro e w1 ⟨rfl, hb⟩)
  go_ret2
  exact ⟨rfl, hb⟩
set_option maxRecDepth 100000 in
set_option maxHeartbeats 1000000 in
theorem rget_none (k : ByteArray) (n : Nat) (hn : n < 4) (hk : keyB k.data.toList = true) (hkn : shardOf k.data.toList = n) (hL : (L n).length ≤ 12) (hm : Mdl w ml sb lv L) (hh : atHas (L n) k.data.toList = false) :
    Calls Tryz.prog 26 #[.pointer (some ⟨ml, 0, none⟩), .string k] w (GetsPost w [] 6) := by
  have hn3 : ((n : Int) < 4) := by omega
  have HM := Lib.hid hm
  have HH := Lib.hid hh
  clear hm hh
  go_enter Tryz.func26, Tryz.ntmps26
  go_wp2_with (first
    | (go_at_call 50; refine (rof_yes _ hk).mono ?_; rintro e w1 ⟨rfl, hb⟩; rw [hkn]; have M1 := Lib.hid (HM.out.below hb); have B1 := Lib.hid hb; obtain ⟨cap, ms⟩ := M1.out.s; obtain ⟨m1, m2, m3⟩ := M1.out.cl hn; clear hb)
    | (go_at_call 51; refine (at_mdl M1.out B1.out hn rfl hL).mono ?_; rintro e w2 ⟨rfl, h2⟩; rw [HH.out]; have H2 := Lib.hid h2; clear h2))
  go_ret2
  exact ⟨rfl, H2.out.2⟩
set_option maxRecDepth 100000 in
set_option maxHeartbeats 1000000 in
theorem rget_some (k : ByteArray) (n : Nat) (hn : n < 4) (hk : keyB k.data.toList = true) (hkn : shardOf k.data.toList = n) (hL : (L n).length ≤ 12) (hm : Mdl w ml sb lv L) (hh : atHas (L n) k.data.toList = true) (x : Bs) (hx : (L n)[atIx (L n) k.data.toList]? = some (k.data.toList, x)) :
    Calls Tryz.prog 26 #[.pointer (some ⟨ml, 0, none⟩), .string k] w (GetsPost w x 0) := by
  have hn3 : ((n : Int) < 4) := by omega
  have hlt := (List.getElem?_eq_some_iff.1 hx).1
  obtain ⟨ix, hix⟩ : ∃ i, atIx (L n) k.data.toList = i := ⟨_, rfl⟩
  obtain ⟨g, cp, hv⟩ : ∃ g cp, lv n = .slice (some ⟨g, 0, none⟩) (L n).length cp := by
    rcases (hm.r n hn).1.2 with ⟨_, hz⟩ | ⟨g, cap, cur, h, _⟩
    · omega
    · exact ⟨g, cap, h⟩
  have hc : ∀ w', Below w.heap.size w w' → w'.cell? ⟨g, ix * 2 + 1, none⟩ = some (sv x) := fun w' hb => by
    have h1 := (flat_get (L n) _ _ hx).2
    have h2 := ((hm.below hb).r n hn).1.cells (g := g) (by rw [hv]; rfl) _ _ h1
    rw [Addr.add_lit, Nat.zero_add, hix] at h2
    exact h2
  rw [hix] at hlt
  have HM := Lib.hid hm
  have HH := Lib.hid hh
  have HV := Lib.hid hv
  have HC := Lib.hid hc
  have HI := Lib.hid hix
  have HS : Hid (sv x = .string ⟨x.toArray⟩) := Lib.hid rfl
  generalize hsx : sv x = svx at *
  unfold sv at hsx
  subst hsx
  clear hm hh hv hc hix hx
  go_enter Tryz.func26, Tryz.ntmps26
  go_wp2_with (first
    | (go_at_call 50; refine (rof_yes _ hk).mono ?_; rintro e w1 ⟨rfl, hb⟩; rw [hkn]; have M1 := Lib.hid (HM.out.below hb); have B1 := Lib.hid hb; obtain ⟨cap, ms⟩ := M1.out.s; have m1 := (M1.out.cl hn).1; rw [HV.out] at m1; clear hb)
    | (go_at_call 51; refine (at_mdl M1.out B1.out hn HV.out hL).mono ?_; rintro e w2 ⟨rfl, h2⟩; rw [HH.out, HI.out]; have H2 := Lib.hid h2; obtain ⟨cap2, ms2⟩ := H2.out.1.s; have m2 := (H2.out.1.cl hn).1; rw [HV.out] at m2; have c2 := HC.out _ H2.out.2; clear h2))
  go_ret2
  exact ⟨rfl, H2.out.2⟩
theorem rget_c (k : ByteArray) (hL : ∀ i, i < 4 → (L i).length ≤ 12) (hri : ∀ i, i < 4 → Rising (L i)) (hm : Mdl w ml sb lv L) :
    Calls Tryz.prog 26 #[.pointer (some ⟨ml, 0, none⟩), .string k] w (GetsPost w (getV L k.data.toList) (getE L k.data.toList)) := by
  unfold getV getE
  cases hk : keyB k.data.toList
  · exact rget_no k hk
  · have hn := shardOf_lt k.data.toList
    obtain ⟨a1, a2, a3, _⟩ := at_spec (hri _ hn) k.data.toList
    cases hx : kvFind (L (shardOf k.data.toList)) k.data.toList with
    | none => exact rget_none k _ hn hk rfl (hL _ hn) hm (by rw [a2, hx]; rfl)
    | some x => exact rget_some k _ hn hk rfl (hL _ hn) hm (by rw [a2, hx]; rfl) x (a3 x hx)
end
end Go.Proofs.YtkpekiajdlolnabGreat

/-
  CONTRACTS OF THE LAW's OWN FUNCTIONS (lone), first text: pick, stage, same.
-/
namespace Go.Proofs.YtkpekiajdlolnabGreat
open Go.RowKit Go.Maps

section
variable {w : World}
def pickN (a : Int) (n : Nat) : Nat := ((if a < 0 then -(a + 1) else a).toNat) % n
set_option maxRecDepth 100000 in
theorem pick_c (a : Int) (n : Nat) (hn : 0 < n) (hn2 : n ≤ 4398046511104) (h1 : -9223372036854775808 ≤ a) (h2 : a ≤ 9223372036854775807) :
    Calls Tryz.prog 23 #[.int .i64 a, .int .i64 n] w fun e w' => (e = .returned (.int .i64 (pickN a n : Nat)) ∧ w' = w) := by
  have hn0 : ¬ n = 0 := by omega
  by_cases h : a < 0
  · have g1 : decide (a < 0) = true := decide_eq_true h
    obtain ⟨b, hb⟩ : ∃ b : Nat, -(a + 1) = b := ⟨(-(a + 1)).toNat, by omega⟩
    have hp : pickN a n = b % n := by unfold pickN; rw [if_pos h, hb]; rfl
    rw [hp]
    obtain rfl : a = -(b : Int) - 1 := by omega
    clear hp hb
    go_enter Tryz.func23, Tryz.ntmps23
    go_wp2
    go_ret
    exact ⟨rfl, rfl⟩
  · have g1 : decide (a < 0) = false := decide_eq_false h
    obtain ⟨b, rfl⟩ : ∃ b : Nat, a = b := ⟨a.toNat, by omega⟩
    have hp : pickN b n = b % n := by unfold pickN; rw [if_neg h]; rfl
    rw [hp]
    clear hp
    go_enter Tryz.func23, Tryz.ntmps23
    go_wp2
    go_ret
    exact ⟨rfl, rfl⟩
set_option maxRecDepth 100000 in
theorem stage_le (k : Int) (h : k ≤ 5) : Calls Tryz.prog 14 #[.int .i64 k] w fun e w' => (e = .returned (.int .i64 1) ∧ w' = w) := by
  have g1 : decide (k ≤ 5) = true := decide_eq_true h
  go_enter Tryz.func14, Tryz.ntmps14
  go_wp2
  go_ret
  exact ⟨rfl, rfl⟩
set_option maxRecDepth 100000 in
theorem stage_gt (k : Int) (h : 5 < k) : Calls Tryz.prog 14 #[.int .i64 k] w fun e w' => ((∃ s : Int, 1 < s ∧ s ≤ 4 ∧ e = .returned (.int .i64 s)) ∧ w' = w) := by
  have g1 : decide (k ≤ 5) = false := decide_eq_false (by omega)
  by_cases h9 : k ≤ 9
  · have g2 : decide (k ≤ 9) = true := decide_eq_true h9
    go_enter Tryz.func14, Tryz.ntmps14
    go_wp2
    go_ret
    exact ⟨⟨2, by omega, by omega, rfl⟩, rfl⟩
  · have g2 : decide (k ≤ 9) = false := decide_eq_false h9
    by_cases h10 : k = 10
    · subst h10
      go_enter Tryz.func14, Tryz.ntmps14
      go_wp2
      go_ret
      exact ⟨⟨3, by omega, by omega, rfl⟩, rfl⟩
    · by_cases h12 : k = 12
      · subst h12
        go_enter Tryz.func14, Tryz.ntmps14
        go_wp2
        go_ret
        exact ⟨⟨3, by omega, by omega, rfl⟩, rfl⟩
      · have g3 : decide (k = 10) = false := decide_eq_false h10
        have g4 : decide (k = 12) = false := decide_eq_false h12
        have g5 : (k == 10) = false := by simpa using h10
        have g6 : (k == 12) = false := by simpa using h12
        go_enter Tryz.func14, Tryz.ntmps14
        go_wp2
        go_ret
        exact ⟨⟨4, by omega, by omega, rfl⟩, rfl⟩
/-- two rows of pairs that read alike are the same. -/
theorem row_cells {v : Value} {l : KV} {base : Nat} (h : w.ownsRow base 74 2 v l.length (flat l)) {g : Nat} (hg : v.ownBlock = some g) {j : Nat} {p : Bs × Bs} (hp : l[j]? = some p) : w.cell? ⟨g, j * 2, none⟩ = some (sv p.1) ∧ w.cell? ⟨g, j * 2 + 1, none⟩ = some (sv p.2) := by
  obtain ⟨q1, q2⟩ := flat_get l j p hp
  have d1 := h.cells hg _ _ q1
  have d2 := h.cells hg _ _ q2
  rw [Addr.add_lit, Nat.zero_add] at d1 d2
  exact ⟨d1, d2⟩
set_option maxRecDepth 100000 in
set_option maxHeartbeats 1000000 in
theorem same_c {a b : Value} {l : KV} {ba bb : Nat} (ha : w.ownsRow ba 74 2 a l.length (flat l)) (hb : w.ownsRow bb 74 2 b l.length (flat l)) (hl : l.length ≤ 1073741824) : Calls Tryz.prog 29 #[a, b] w fun e w' => (e = .returned (.bool true) ∧ Below w.heap.size w w') := by
  obtain ⟨sa, ca, rfl⟩ : ∃ sa ca, a = .slice sa l.length ca := by
    rcases ha.2 with ⟨rfl, hz⟩ | ⟨g, cap, cur, rfl, _⟩
    · exact ⟨none, 0, by rw [hz]⟩
    · exact ⟨_, _, rfl⟩
  obtain ⟨sb, cb, rfl⟩ : ∃ sa ca, b = .slice sa l.length ca := by
    rcases hb.2 with ⟨rfl, hz⟩ | ⟨g, cap, cur, rfl, _⟩
    · exact ⟨none, 0, by rw [hz]⟩
    · exact ⟨_, _, rfl⟩
  have hsa : ∀ j, j < l.length → ∃ g, sa = some ⟨g, 0, none⟩ := fun j hj => by
    rcases ha.2 with ⟨h, hz⟩ | ⟨g, cap, cur, h, _⟩
    · omega
    · injection h with h1; exact ⟨g, h1⟩
  have hsb : ∀ j, j < l.length → ∃ g, sb = some ⟨g, 0, none⟩ := fun j hj => by
    rcases hb.2 with ⟨h, hz⟩ | ⟨g, cap, cur, h, _⟩
    · omega
    · injection h with h1; exact ⟨g, h1⟩
  have HA := Lib.hid ha
  have HB := Lib.hid hb
  have HSA := Lib.hid hsa
  have HSB := Lib.hid hsb
  clear ha hb hsa hsb
  by_cases hz : l.length = 0
  · rw [hz]
    clear HA HB HSA HSB
    go_enter Tryz.func29, Tryz.ntmps29
    go_wp2
    refine wp_loop_rounds 1 ?_
    rw [rounds_succ]
    go_wp2
    go_ret
    exact ⟨rfl, Below.refl _ _⟩
  obtain ⟨ga, rfl⟩ := HSA.out 0 (by omega)
  obtain ⟨gb, rfl⟩ := HSB.out 0 (by omega)
  clear HSA HSB
  go_enter Tryz.func29, Tryz.ntmps29
  go_wp2
  go_loopw [13] (fun x wr => ∃ j : Nat, j ≤ l.length ∧ x = .int .i64 j ∧ Below w.heap.size w wr) (fun x _ => l.length - (intOf x).toNat)
  case atStart => exact ⟨0, Nat.zero_le _, rfl, Below.refl _ _⟩
  case round =>
    obtain ⟨j, hj, rfl, hbw⟩ := hrel
    by_cases hjl : j < l.length
    · obtain ⟨p, hp⟩ : ∃ p, l[j]? = some p := ⟨_, List.getElem?_eq_getElem hjl⟩
      obtain ⟨a1, a2⟩ := row_cells HA.out (g := ga) rfl hp
      obtain ⟨b1, b2⟩ := row_cells HB.out (g := gb) rfl hp
      have a1 := (hbw.cell (World.block_lt_of_cell? w _ a1)).trans a1
      have a2 := (hbw.cell (World.block_lt_of_cell? w _ a2)).trans a2
      have b1 := (hbw.cell (World.block_lt_of_cell? w _ b1)).trans b1
      have b2 := (hbw.cell (World.block_lt_of_cell? w _ b2)).trans b2
      unfold sv at a1 a2 b1 b2
      generalize (⟨p.1.toArray⟩ : ByteArray) = pk at *
      generalize (⟨p.2.toArray⟩ : ByteArray) = pv at *
      have hjz : (0 : Int) ≤ (j : Int) := by omega
      have hji : (j : Int) < ((l.length : Nat) : Int) := by omega
      go_wp2
      go_quiet (fail)
      go_wp2
      go_roundw
      case rel => exact ⟨j + 1, by omega, rfl, Below.drewN' hbw _⟩
      case measure => simp [intOf]; omega
    · obtain rfl : j = l.length := by omega
      go_wp2
      go_ret
      exact ⟨rfl, hbw⟩
end
end Go.Proofs.YtkpekiajdlolnabGreat
