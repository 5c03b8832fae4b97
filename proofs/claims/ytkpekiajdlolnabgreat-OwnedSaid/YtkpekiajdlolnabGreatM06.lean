/-
  PROVED IN PARTS: text 6 of 10 of the carrying ground of the claim (see each part's own remark). Conditions: those that each theorem names.
-/
import Derived.Test.YtkpekiajdlolnabGreatM05
import Derived.WalkKit
import Derived.Conc.LeavingOf
set_option linter.unusedVariables false
set_option linter.unusedSimpArgs false

/-
  SCAN IN COMPANY, ninth text: THE STARTER's LOOP.
-/
namespace Go.Proofs.YtkpekiajdlolnabGreat.Ph
open Go.Conc Go.ConcN Go.RowKit Go.Conc.Lib Go.ConcR.Gen Go.ConcN.Gen Go Go.Proofs.YtkpekiajdlolnabGreat.Sim
open Go.ConcR (KK wgBlock WgAt stA smA rd wr mk Payload Aside2 DC0 ofEvent_cell)

/-- Scan's temporaries at the loop's head. -/
structure ScH (mo : Value) (cb fb tb C Wg i : Nat) (T : Array Value) : Prop where
  size : T.size = 42
  t4 : T.getD 4 undef = .pointer (some ⟨cb, 0, none⟩)
  t5 : T.getD 5 undef = .pointer (some ⟨fb, 0, none⟩)
  t6 : T.getD 6 undef = .pointer (some ⟨tb, 0, none⟩)
  t10 : T.getD 10 undef = .pointer (some ⟨C, 0, none⟩)
  t11 : T.getD 11 undef = .pointer (some ⟨Wg, 0, none⟩)
  t18 : T.getD 18 undef = .int .i64 i
  t3 : T.getD 3 undef = mo

theorem loudS : (Tryz.prog.funcs[bS.fn]?).any (·.norace) = false := by kernel_rfl
section
variable {mo : Value} {cb fb tb C Wg i : Nat} {T : Array Value} {F O : Blocks} {w : World} {k : List Item} {cs : List Frame} {Stop : Blocks → Blocks → Goroutine → World → Prop}
/-- the loop's test. -/
theorem sTest (hT : ScH mo cb fb tb C Wg i T) (hF : FOk F O w) {b : Bool} (hb : decide ((i : Int) < 4) = b)
    (n : WG Tryz.prog true Stop F O (G (bS.at ⟨T.setIfInBounds 19 (.bool b), []⟩ (.code (if b then .skip else .exit 0) :: .code (.seq (.block 1 sIn) (.region 10 R10 false)) :: k)) cs) w) :
    WG Tryz.prog true Stop F O (G (bS.at ⟨T, []⟩ (.code sL :: k)) cs) w := by
  rw [sL_eq]
  refine WG.ctl rfl hF (fun w1 => stepG_seq) ?_
  refine WG.ctl rfl hF (fun w1 => stepG_region) ?_
  change WG _ _ _ _ _ (G (bS.at ⟨T, []⟩ (.inRegion R6 [0] :: _)) cs) w
  obtain ⟨o, ho, hop, hd, hg⟩ : ∃ o, R6[0]? = some o ∧ o.op = .binOp .lss 3 (.tmp 18) (.const (.int .i64 4)) 3 ∧ o.dst = some 19 ∧ o.guard = none := ⟨_, rfl, rfl, rfl, rfl⟩
  have hwant : Region.wanted o (yielded R6 (Act.mk T []).tmps) = true := by unfold Region.wanted; rw [hg]
  refine WG.value (.bool b) hF ho hwant (by decide) (fun w1 _ => ?_) ?_
  · have b18 : (Act.mk T []).eval (.tmp 18) = .int .i64 i := hT.t18
    have bc : (Act.mk T []).eval (.const (.int .i64 4)) = .int .i64 4 := rfl
    generalize (Act.mk T []).eval = e at *
    unfold execOp
    constructor
    · simp [go_sem, hop, b18, bc, hb]
    · simp [go_sem, hop, b18, bc]
  rw [hd]
  change WG _ _ _ _ _ (G (bS.at ⟨T.setIfInBounds 19 (.bool b), []⟩ (.inRegion R6 [] :: _)) cs) w
  refine WG.ctl rfl hF (fun w1 => stepG_region_end) ?_
  refine WG.ctl rfl hF (fun w1 => stepG_seq) ?_
  have hc : (Act.mk (T.setIfInBounds 19 (.bool b)) []).eval (.tmp 19) = .bool b := tset_same (by rw [hT.size]; omega)
  exact WG.ctl rfl hF (fun w1 => stepG_cond hc) n

/-- a world with one more variable. -/
def grown (w : World) : World := { w with heap := w.heap.push (.cells #[.int .i64 0] 3) }
theorem sAlloc {e : Operand → Value} {o : Oper} (hop : o.op = .alloc 3) (w : World) : (execOp e o).run Tryz.prog w = .ok (.value (.pointer (some ⟨w.heap.size, 0, none⟩))) (grown w) ∧ (execOp e o).events Tryz.prog w #[] = #[] := by
  unfold execOp
  constructor
  · simp [go_sem, hop, grown, Instr.alloc]
  · simp [go_sem, hop, Instr.alloc]
theorem sStore {e : Operand → Value} {o : Oper} {x y : Operand} {ad : Addr} {n : Int} {u : Value} (hop : o.op = .store 3 x y) (hx : e x = .pointer (some ad)) (hy : e y = .int .i64 n) {w : World} (hc : w.cell? ad = some u) (hz : w.frozen? ad = false) :
    (execOp e o).run Tryz.prog w = .ok .skip (w.setCell ad (.int .i64 n)) ∧ (execOp e o).events Tryz.prog w #[] = #[⟨.cell ad, true, false⟩] := by
  unfold execOp
  simp only [hop, hx, hy]
  constructor
  · simp [go_sem, stored, hc, hz]
  · simp [go_sem, storedEv, hc, hz]

theorem grown_size {w : World} : (grown w).heap.size = w.heap.size + 1 := by
  show (w.heap.push _).size = _
  rw [Array.size_push]
theorem grown_ok (hF : FOk F O w) : StepOK F O w (fun b => F b ∨ b = w.heap.size) (fun b => O b ∨ b = w.heap.size) (grown w) #[] :=
  ⟨fun _ h => .inl h, fun _ h => .inl h, fun b h => h.imp id (fun e => by rw [e]; exact Nat.le_refl _), fun b h => h.imp id (fun e => by rw [e]; exact Nat.le_refl _), fun b h => h.imp (hF.own b) id, fun b hb _ => by
    show (w.heap.push _)[b]? = _
    rw [Array.getElem?_push, if_neg (Nat.ne_of_lt hb)], by rw [grown_size]; omega,
    fun b h => by
      rw [grown_size]
      rcases h with h | h
      · exact Nat.lt_succ_of_lt (hF.low b h)
      · omega, ⟨0, rfl⟩, rfl, rfl, rfl, by simp, NB.push fun _ _ e => by cases e⟩
theorem grown_cell : (grown w).cell? ⟨w.heap.size, 0, none⟩ = some (.int .i64 0) ∧ (grown w).frozen? ⟨w.heap.size, 0, none⟩ = false := by
  have h : (grown w).heap[w.heap.size]? = some (.cells #[.int .i64 0] 3) := by
    show (w.heap.push _)[_]? = _
    rw [Array.getElem?_push, if_pos rfl]
  constructor
  · simp [World.cell?, h]
  · simp [World.frozen?, h]
theorem set_ok {w : World} {kb : Nat} {v : Value} (hF : FOk F O w) (hk : O kb) : StepOK F O w F O (w.setCell ⟨kb, 0, none⟩ v) #[⟨.cell ⟨kb, 0, none⟩, true, false⟩] := by
  have hA := aside_setCell w ⟨kb, 0, none⟩ v
  refine ⟨fun _ h => h, fun _ h => h, fun _ h => .inl h, fun _ h => .inl h, hF.own, fun b _ hb => hA.block b fun (e : b = kb) => hb (e ▸ hk), Nat.le_of_eq hA.size.symm, fun b h => by rw [hA.size]; exact hF.low b h, ⟨0, ?_⟩, hA.tape, hA.os, hA.output, fun e he => ?_, fun _ => trivial⟩
  · unfold World.setCell; rfl
  · rw [Array.mem_singleton] at he
    subst he
    exact ⟨rfl, hF.own _ hk, fun _ => hk⟩

/-- the temporaries behind the variable's making. -/
def T7 (i kb : Nat) (T : Array Value) : Array Value := ((T.setIfInBounds 19 (.bool true)).setIfInBounds 20 (.int .i64 i)).setIfInBounds 12 (.pointer (some ⟨kb, 0, none⟩))
theorem stepOK_fok {F O F' O' : Blocks} {w w' : World} {es : Array Event} (h : StepOK F O w F' O' w' es) : FOk F' O' w' := ⟨h.low, h.own⟩
/-- the iteration's variable is made; then Add is to be called. -/
theorem sMake (hT : ScH mo cb fb tb C Wg i T) (hF : FOk F O w)
    (n : ∀ (kb : Nat) (w3 : World), Ext F w w3 → w.heap.size ≤ kb → w3.cell? ⟨kb, 0, none⟩ = some (.int .i64 i) → FOk (fun b => F b ∨ b = kb) (fun b => O b ∨ b = kb) w3 → WG Tryz.prog true Stop (fun b => F b ∨ b = kb) (fun b => O b ∨ b = kb)
      (G (bS.at ⟨T7 i kb T, []⟩ (.inRegion R8 [0] :: .code (.region 9 R9 false) :: k)) cs) w3) :
    WG Tryz.prog true Stop F O (G (bS.at ⟨T.setIfInBounds 19 (.bool true), []⟩ (.code sIn :: k)) cs) w := by
  rw [sIn_eq]
  refine WG.ctl rfl hF (fun w1 => stepG_seq) ?_
  refine WG.ctl rfl hF (fun w1 => stepG_region) ?_
  change WG _ _ _ _ _ (G (bS.at ⟨T.setIfInBounds 19 (.bool true), []⟩ (.inRegion R7 [0, 1, 2] :: _)) cs) w
  obtain ⟨o, ho, hop, hd, hg⟩ : ∃ o, R7[0]? = some o ∧ o.op = .move (.tmp 18) ∧ o.dst = some 20 ∧ o.guard = none := ⟨_, rfl, rfl, rfl, rfl⟩
  have hwant : Region.wanted o (yielded R7 (Act.mk (T.setIfInBounds 19 (.bool true)) []).tmps) = true := by unfold Region.wanted; rw [hg]
  refine WG.value (.int .i64 i) hF ho hwant (by decide) (fun w1 _ => ?_) ?_
  · have b18 : (Act.mk (T.setIfInBounds 19 (.bool true)) []).eval (.tmp 18) = .int .i64 i := (tset_ne (by omega)).trans hT.t18
    generalize (Act.mk (T.setIfInBounds 19 (.bool true)) []).eval = e at *
    unfold execOp
    constructor
    · simp [go_sem, hop, b18]
    · simp [go_sem, hop, b18]
  rw [hd]
  change WG _ _ _ _ _ (G (bS.at ⟨(T.setIfInBounds 19 (.bool true)).setIfInBounds 20 (.int .i64 i), []⟩ (.inRegion R7 [1, 2] :: _)) cs) w
  obtain ⟨o1, ho1, hop1, hd1, hg1⟩ : ∃ o, R7[1]? = some o ∧ o.op = .alloc 3 ∧ o.dst = some 12 ∧ o.guard = none := ⟨_, rfl, rfl, rfl, rfl⟩
  have hwant1 : Region.wanted o1 (yielded R7 (Act.mk ((T.setIfInBounds 19 (.bool true)).setIfInBounds 20 (.int .i64 i)) []).tmps) = true := by unfold Region.wanted; rw [hg1]
  refine WG.step rfl fun w1 e1 => ?_
  have hF1 := hF.ext e1
  have hs := stepG_value (P := Tryz.prog) (main := true) (b := bS) (k := .code (.seq (.region 8 R8 false) (.region 9 R9 false)) :: k) (cs := cs) (rest := [2]) ho1 hwant1 (by decide) (sAlloc hop1 w1).1
  have hl : listed Tryz.prog bS.fn (Act.mk ((T.setIfInBounds 19 (.bool true)).setIfInBounds 20 (.int .i64 i)) []) o1 w1 = #[] := by unfold listed; rw [(sAlloc hop1 w1).2, seen_none]
  rw [hl, hd1] at hs
  refine ⟨_, _, _, _, _, hs, grown_ok hF1, ?_⟩
  have hF2 := stepOK_fok (grown_ok hF1)
  change WG _ _ _ _ _ (G (bS.at ⟨T7 i w1.heap.size T, []⟩ (.inRegion R7 [2] :: _)) cs) (grown w1)
  obtain ⟨o2, ho2, hop2, hd2, hg2⟩ : ∃ o, R7[2]? = some o ∧ o.op = .store 3 (.tmp 12) (.tmp 20) ∧ o.dst = none ∧ o.guard = none := ⟨_, rfl, rfl, rfl, rfl⟩
  have hwant2 : Region.wanted o2 (yielded R7 (Act.mk (T7 i w1.heap.size T) []).tmps) = true := by unfold Region.wanted; rw [hg2]
  have b12 : (Act.mk (T7 i w1.heap.size T) []).eval (.tmp 12) = .pointer (some ⟨w1.heap.size, 0, none⟩) := tset_same (by simp [hT.size])
  have b20 : (Act.mk (T7 i w1.heap.size T) []).eval (.tmp 20) = .int .i64 i := (tset_ne (by omega)).trans (tset_same (by simp [hT.size]))
  refine WG.step rfl fun w2 e2 => ?_
  have hcell : w2.cell? ⟨w1.heap.size, 0, none⟩ = some (.int .i64 0) ∧ w2.frozen? ⟨w1.heap.size, 0, none⟩ = false := by
    have h := e2.keep w1.heap.size (.inr rfl)
    obtain ⟨g1, g2⟩ := grown_cell (w := w1)
    unfold World.cell? at g1 ⊢
    unfold World.frozen? at g2 ⊢
    rw [h]
    exact ⟨g1, g2⟩
  have hst := sStore (e := (Act.mk (T7 i w1.heap.size T) []).eval) hop2 b12 b20 hcell.1 hcell.2
  have hs2 := stepG_none (P := Tryz.prog) (main := true) (b := bS) (k := .code (.seq (.region 8 R8 false) (.region 9 R9 false)) :: k) (cs := cs) (rest := []) ho2 hwant2 (by decide) hst.1
  have hl2 : listed Tryz.prog bS.fn (Act.mk (T7 i w1.heap.size T) []) o2 w2 = #[⟨.cell ⟨w1.heap.size, 0, none⟩, true, false⟩] := by
    unfold listed; rw [hst.2]
    exact seen_eq loudS (by simp)
  rw [hl2, hd2] at hs2
  refine ⟨_, _, _, _, _, hs2, set_ok (hF2.ext e2) (.inr rfl), ?_⟩
  have hF3 := stepOK_fok (set_ok (v := .int .i64 i) (hF2.ext e2) (.inr rfl : (fun b => O b ∨ b = w1.heap.size) w1.heap.size))
  change WG _ _ _ _ _ (G (bS.at ⟨T7 i w1.heap.size T, []⟩ (.inRegion R7 [] :: _)) cs) _
  refine WG.ctl rfl hF3 (fun w1 => stepG_region_end) ?_
  refine WG.ctl rfl hF3 (fun w1 => stepG_seq) ?_
  refine WG.ctl rfl hF3 (fun w1 => stepG_region) ?_
  change WG _ _ _ _ _ (G (bS.at ⟨T7 i w1.heap.size T, []⟩ (.inRegion R8 [0] :: _)) cs) _
  refine n w1.heap.size _ ?_ e1.size ?_ hF3
  · refine e1.trans ⟨?_, fun b hb => ?_⟩
    · have := e2.size
      rw [(aside_setCell w2 ⟨w1.heap.size, 0, none⟩ (.int .i64 i)).size]
      rw [grown_size] at this
      omega
    · have hlt := hF1.low b hb
      rw [(aside_setCell w2 ⟨w1.heap.size, 0, none⟩ (.int .i64 i)).block b (fun (e : b = w1.heap.size) => by omega), e2.keep b (.inl hb)]
      show (w1.heap.push _)[b]? = _
      rw [Array.getElem?_push, if_neg (Nat.ne_of_lt hlt)]
  · have h0 : w2.heap[w1.heap.size]? = some (.cells #[.int .i64 0] 3 (0, 0)) := by
      rw [e2.keep _ (.inr rfl)]
      show (w1.heap.push _)[_]? = _
      rw [Array.getElem?_push, if_pos rfl]
    have hb : (w2.setCell ⟨w1.heap.size, 0, none⟩ (.int .i64 i)).heap[w1.heap.size]? = some (.cells (#[.int .i64 0].setIfInBounds 0 (.int .i64 i)) 3) := by
      rw [setCell_eq_setRow w2 w1.heap.size 0 #[.int .i64 0] _ (0, 0) _ h0, setRow_heap w2 w1.heap.size _ _ _ _ h0]
    simp [World.cell?, hb]
end
end Go.Proofs.YtkpekiajdlolnabGreat.Ph

/-
  SCAN IN COMPANY, tenth text: THE STARTER's WHOLE SCRIPT up to the call of Wait.
-/
namespace Go.Proofs.YtkpekiajdlolnabGreat.Ph
open Go.Conc Go.ConcN Go.RowKit Go.Conc.Lib Go.ConcR.Gen Go.ConcN.Gen Go Go.Proofs.YtkpekiajdlolnabGreat.Sim
open Go.ConcR (KK wgBlock WgAt stA smA rd wr mk Payload Aside2 DC0 ofEvent_cell)

section
variable {mo : Value} {cb fb tb C Wg : Nat} {k : List Item} {cs : List Frame} {Res : Nat → Blocks → Value → World → Prop} {K : Goroutine → World → Prop}
/-- one round's end: the counter. -/
theorem sNext {Stop : Blocks → Blocks → Goroutine → World → Prop} {F O : Blocks} {w : World} {i kb : Nat} {T : Array Value} (hi : i < 4) (hT : ScH mo cb fb tb C Wg i T) (hF : FOk F O w)
    (n : ∀ T', ScH mo cb fb tb C Wg (i + 1) T' → WG Tryz.prog true Stop F O (G (bS.at ⟨T', []⟩ (.code sL :: .inLoop sL :: k)) cs) w) :
    WG Tryz.prog true Stop F O (G (bS.at ⟨T9 Wg cb kb fb tb C (T7 i kb T), []⟩ (.inRegion R9 [] :: .inBlock 1 :: .code (.region 10 R10 false) :: .inLoop sL :: k)) cs) w := by
  refine WG.ctl rfl hF (fun w1 => stepG_region_end) ?_
  refine WG.ctl rfl hF (fun w1 => stepG_inBlock) ?_
  refine WG.ctl rfl hF (fun w1 => stepG_region) ?_
  have hsz : (T9 Wg cb kb fb tb C (T7 i kb T)).size = 42 := by simp [T9, T7, hT.size]
  have g : ∀ j, j ≠ 12 → j ≠ 19 → j ≠ 20 → j ≠ 21 → j ≠ 22 → (T9 Wg cb kb fb tb C (T7 i kb T)).getD j undef = T.getD j undef := fun j a b c d e => by
    unfold T9 T7
    rw [tset_ne (Ne.symm e), tset_ne (Ne.symm d), tset_ne (Ne.symm a), tset_ne (Ne.symm c), tset_ne (Ne.symm b)]
  have g4 := (g 4 (by decide) (by decide) (by decide) (by decide) (by decide)).trans hT.t4
  have g5 := (g 5 (by decide) (by decide) (by decide) (by decide) (by decide)).trans hT.t5
  have g6 := (g 6 (by decide) (by decide) (by decide) (by decide) (by decide)).trans hT.t6
  have g10 := (g 10 (by decide) (by decide) (by decide) (by decide) (by decide)).trans hT.t10
  have g11 := (g 11 (by decide) (by decide) (by decide) (by decide) (by decide)).trans hT.t11
  have g3 := (g 3 (by decide) (by decide) (by decide) (by decide) (by decide)).trans hT.t3
  have g18 := (g 18 (by decide) (by decide) (by decide) (by decide) (by decide)).trans hT.t18
  generalize T9 Wg cb kb fb tb C (T7 i kb T) = U at *
  change WG _ _ _ _ _ (G (bS.at ⟨U, []⟩ (.inRegion R10 [0, 1] :: _)) cs) w
  obtain ⟨o, ho, hop, hd, hg⟩ : ∃ o, R10[0]? = some o ∧ o.op = .binOp .add 3 (.tmp 18) (.const (.int .i64 1)) 3 ∧ o.dst = some 23 ∧ o.guard = none := ⟨_, rfl, rfl, rfl, rfl⟩
  have hwant : Region.wanted o (yielded R10 (Act.mk U []).tmps) = true := by unfold Region.wanted; rw [hg]
  refine WG.value (.int .i64 ((i + 1 : Nat) : Int)) hF ho hwant (by decide) (fun w1 _ => ?_) ?_
  · have b18 : (Act.mk U []).eval (.tmp 18) = .int .i64 i := g18
    have bc : (Act.mk U []).eval (.const (.int .i64 1)) = .int .i64 1 := rfl
    have hwrap : IntKind.i64.wrap ((i : Int) + 1) = ((i + 1 : Nat) : Int) := by rw [IntKind.wrap_i64]; omega
    generalize (Act.mk U []).eval = e at *
    unfold execOp
    constructor
    · simp [go_sem, hop, b18, bc, hwrap]
    · simp [go_sem, hop, b18, bc]
  rw [hd]
  change WG _ _ _ _ _ (G (bS.at ⟨U.setIfInBounds 23 (.int .i64 ((i + 1 : Nat) : Int)), []⟩ (.inRegion R10 [1] :: _)) cs) w
  obtain ⟨o1, ho1, hop1, hd1, hg1⟩ : ∃ o, R10[1]? = some o ∧ o.op = .move (.tmp 23) ∧ o.dst = some 18 ∧ o.guard = none := ⟨_, rfl, rfl, rfl, rfl⟩
  have hwant1 : Region.wanted o1 (yielded R10 (Act.mk (U.setIfInBounds 23 (.int .i64 ((i + 1 : Nat) : Int))) []).tmps) = true := by unfold Region.wanted; rw [hg1]
  refine WG.value (.int .i64 ((i + 1 : Nat) : Int)) hF ho1 hwant1 (by decide) (fun w1 _ => ?_) ?_
  · have b23 : (Act.mk (U.setIfInBounds 23 (.int .i64 ((i + 1 : Nat) : Int))) []).eval (.tmp 23) = .int .i64 ((i + 1 : Nat) : Int) := tset_same (by rw [hsz]; omega)
    generalize (Act.mk (U.setIfInBounds 23 (.int .i64 ((i + 1 : Nat) : Int))) []).eval = e at *
    unfold execOp
    constructor
    · simp [go_sem, hop1, b23]
    · simp [go_sem, hop1, b23]
  rw [hd1]
  change WG _ _ _ _ _ (G (bS.at ⟨(U.setIfInBounds 23 (.int .i64 ((i + 1 : Nat) : Int))).setIfInBounds 18 (.int .i64 ((i + 1 : Nat) : Int)), []⟩ (.inRegion R10 [] :: _)) cs) w
  refine WG.ctl rfl hF (fun w1 => stepG_region_end) ?_
  refine WG.ctl rfl hF (fun w1 => stepG_inLoop) ?_
  refine n _ ⟨by simp [hsz], ?_, ?_, ?_, ?_, ?_, ?_, ?_⟩
  · rw [tset_ne (by decide), tset_ne (by decide)]; exact g4
  · rw [tset_ne (by decide), tset_ne (by decide)]; exact g5
  · rw [tset_ne (by decide), tset_ne (by decide)]; exact g6
  · rw [tset_ne (by decide), tset_ne (by decide)]; exact g10
  · rw [tset_ne (by decide), tset_ne (by decide)]; exact g11
  · exact tset_same (by simp [hsz])
  · rw [tset_ne (by decide), tset_ne (by decide)]; exact g3

theorem t7_get {i kb : Nat} {T : Array Value} {j : Nat} (a : j ≠ 12) (b : j ≠ 19) (c : j ≠ 20) : (T7 i kb T).getD j undef = T.getD j undef := by
  unfold T7
  rw [tset_ne (Ne.symm a), tset_ne (Ne.symm c), tset_ne (Ne.symm b)]
theorem ScH.t7 {i kb : Nat} {T : Array Value} (hT : ScH mo cb fb tb C Wg i T) : ScT kb cb fb tb C Wg (T7 i kb T) :=
  ⟨by simp [T7, hT.size], (t7_get (by decide) (by decide) (by decide)).trans hT.t4, (t7_get (by decide) (by decide) (by decide)).trans hT.t5, (t7_get (by decide) (by decide) (by decide)).trans hT.t6, (t7_get (by decide) (by decide) (by decide)).trans hT.t10,
   (t7_get (by decide) (by decide) (by decide)).trans hT.t11, by unfold T7; exact tset_same (by simp [hT.size])⟩

/-- ████ THE STARTER's WHOLE SCRIPT, from the loop's head. ████ -/
theorem starter {Fx : Blocks → World → Prop} (hx : ∀ F w w1, Fx F w → Ext F w w1 → Fx F w1) (hxm : ∀ F F' w, Fx F w → (∀ b, F b → F' b) → Fx F' w)
    (hs : ∀ i : Nat, i < 4 → ∀ F w kb, Fx F w → FOk F (fun _ => False) w → F kb → w.cell? ⟨kb, 0, none⟩ = some (.int .i64 i) → Script Tryz.prog link.tWg Wg C 4 Res i F (born Tryz.prog (callW Wg cb kb fb tb C)) w)
    (h0 : ∀ F O w T, ScH mo cb fb tb C Wg 4 T → FOk F O w → Fx F w → ¬ F Wg → WG Tryz.prog true (Scr Tryz.prog link.tWg Wg C 4 Res K 0) F O (G (bS.at ⟨T, []⟩ (.code sL :: .inLoop sL :: k)) cs) w) :
    ∀ r i, i + r = 4 → ∀ T F O w, ScH mo cb fb tb C Wg i T → FOk F O w → Fx F w → ¬ F Wg → Wg < w.heap.size → WG Tryz.prog true (Scr Tryz.prog link.tWg Wg C 4 Res K r) F O (G (bS.at ⟨T, []⟩ (.code sL :: .inLoop sL :: k)) cs) w := by
  intro r
  induction r with
  | zero =>
    intro i hi T F O w hT hF hX hW _
    obtain rfl : i = 4 := by omega
    exact h0 F O w T hT hF hX hW
  | succ r ih =>
    intro i hi T F O w hT hF hX hW hlt
    have hi4 : i < 4 := by omega
    refine sTest hT hF (b := true) (decide_eq_true (by omega)) ?_
    refine WG.ctl rfl hF (fun w1 => stepG_skip) ?_
    refine WG.ctl rfl hF (fun w1 => stepG_seq) ?_
    refine WG.ctl rfl hF (fun w1 => stepG_block) ?_
    refine sMake hT hF fun kb w3 e3 hkb hcell hF3 => ?_
    obtain ⟨o, ho, hop, hd, hg⟩ : ∃ o, R8[0]? = some o ∧ o.op = .call { callee := .value (.func 53), args := #[.tmp 11, .const (.int .i64 1)], argTypes := #[122, 3] } ∧ o.dst = some 21 ∧ o.guard = none := ⟨_, rfl, rfl, rfl, rfl⟩
    have hwant : Region.wanted o (yielded R8 (Act.mk (T7 i kb T) []).tmps) = true := by unfold Region.wanted; rw [hg]
    have ev : ∀ w1, (execOp (Act.mk (T7 i kb T) []).eval o).run Tryz.prog w1 = .ok (.enter 53 #[.pointer (some ⟨Wg, 0, none⟩), .int .i64 1]) w1 ∧ (execOp (Act.mk (T7 i kb T) []).eval o).events Tryz.prog w1 #[] = #[] := fun w1 => by
      have b11 : (Act.mk (T7 i kb T) []).eval (.tmp 11) = .pointer (some ⟨Wg, 0, none⟩) := (hT.t7 (kb := kb)).t11
      have bc : (Act.mk (T7 i kb T) []).eval (.const (.int .i64 1)) = .int .i64 1 := rfl
      have bf : (Act.mk (T7 i kb T) []).eval (.func 53) = .func (.func 53) #[] #[] := rfl
      generalize (Act.mk (T7 i kb T) []).eval = e at *
      unfold execOp
      constructor
      · simp [go_sem, hop, b11, bc, bf]
      · simp [go_sem, hop, b11, bc, bf]
        simp [callFunc, go_sem, Tryz.func53, Tryz.f53]
    refine WG.quiet rfl hF3 fun w4 e4 => ⟨_, 0, _, stepG_enter ho hwant (by decide) (ev w4).1, fun e' he => ?_, ?_⟩
    · have := mem_listed he
      rw [(ev w4).2] at this
      simp at this
    refine WG.stop fun w5 e5 => ⟨rfl, fun hl => ?_⟩
    have hX5 : Fx (fun b => F b ∨ b = kb) w5 := hx _ _ _ (hx _ _ _ (hxm F _ _ (hx _ _ _ hX e3) (fun b hb => .inl hb)) e4) e5
    have hW' : ¬ (fun b => F b ∨ b = kb) Wg := fun h => h.elim hW fun e => by omega
    have hF5 := (hF3.ext e4).ext e5
    have hc5 : w5.cell? ⟨kb, 0, none⟩ = some (.int .i64 i) := (cell?_heap (a := ⟨kb, 0, none⟩) ((e4.trans e5).keep kb (.inr rfl))).trans hcell
    have hlt5 : Wg < w5.heap.size := Nat.lt_of_lt_of_le (Nat.lt_of_lt_of_le hlt e3.size) (Nat.le_trans e4.size e5.size)
    have hF6 : FOk (fun b => F b ∨ b = kb) (fun _ => False) w5 := ⟨hF5.low, fun _ h => h.elim⟩
    have e0 : 4 - (r + 1) = i := by omega
    rw [e0]
    exact sAdd hT.t7 hW' hl (fun w6 e6 _ => hs i hi4 _ w6 kb (hx _ _ _ hX5 e6) (hF6.ext e6) (.inr rfl) ((cell?_heap (a := ⟨kb, 0, none⟩) (e6.keep kb (.inr rfl))).trans hc5))
      (fun w6 e6 => sNext hi4 hT (hF6.ext e6) fun T' hT' => ih (i + 1) (by omega) T' _ _ w6 hT' (hF6.ext e6) (hx _ _ _ hX5 e6) hW' (Nat.lt_of_lt_of_le hlt5 e6.size))
end
end Go.Proofs.YtkpekiajdlolnabGreat.Ph

/-
  SCAN IN COMPANY, eleventh text: the loop is left: Wait.
-/
namespace Go.Proofs.YtkpekiajdlolnabGreat.Ph
open Go.Conc Go.ConcN Go.RowKit Go.Conc.Lib Go.ConcR.Gen Go.ConcN.Gen Go Go.Proofs.YtkpekiajdlolnabGreat.Sim
open Go.ConcR (KK wgBlock WgAt stA smA rd wr mk Payload Aside2 DC0 ofEvent_cell)

section
variable {P : Program} {ty : TypeId} {Wg : Nat} {F : Blocks} {A K K' : Goroutine → World → Prop}
theorem AtOut.mono (hk : ∀ g w, K g w → K' g w) {g : Goroutine} {w : World} (h : AtOut P ty Wg F K g w) : AtOut P ty Wg F K' g w :=
  MG.mono h fun _ _ h1 => h1.keep fun _ h2 => MG.mono h2 fun _ _ h3 => h3.keep fun _ h4 => hk _ _ h4
theorem AtLd2.mono (hk : ∀ g w, K g w → K' g w) {g : Goroutine} {w : World} (h : AtLd2 P ty Wg F K g w) : AtLd2 P ty Wg F K' g w :=
  ⟨h.1, fun hw => let ⟨g', a, b⟩ := h.2 hw; ⟨g', a, AtOut.mono hk b⟩⟩
theorem AtSem.mono (hk : ∀ g w, K g w → K' g w) {g : Goroutine} {w : World} (h : AtSem P ty Wg F K g w) : AtSem P ty Wg F K' g w :=
  ⟨h.1, h.2.1, h.2.2.1, fun hw => let ⟨g', a, b⟩ := h.2.2.2 hw; ⟨g', a, MG.mono b fun _ _ h => AtLd2.mono hk h⟩⟩
theorem AtCas.mono (hk : ∀ g w, K g w → K' g w) {vs : Nat} {g : Goroutine} {w : World} (h : AtCas P ty Wg F A K vs g w) : AtCas P ty Wg F A K' vs g w :=
  ⟨h.1, fun v hv hw => ⟨fun e => let ⟨g', a, b⟩ := (h.2 v hv hw).1 e; ⟨g', a, MG.mono b fun _ _ h => h.keep fun _ h => MG.mono h fun _ _ h => AtSem.mono hk h⟩, (h.2 v hv hw).2⟩⟩
theorem AtLd.mono (hk : ∀ g w, K g w → K' g w) {g : Goroutine} {w : World} (h : AtLd P ty Wg F A K g w) : AtLd P ty Wg F A K' g w :=
  ⟨h.1, fun v hv hw => let ⟨g', a, b, c⟩ := h.2 v hv hw; ⟨g', a, fun e => AtOut.mono hk (b e), fun e => MG.mono (c e) fun _ _ h => AtCas.mono hk h⟩⟩
end

noncomputable def sT : Code := match sR with | .seq _ c => c | _ => .skip
noncomputable def R11 : Array Oper := match sR with | .seq a _ => rg a | _ => #[]
theorem sR_eq : sR = .seq (.region 11 R11 false) sT := rfl
section
variable {mo : Value} {cb fb tb C Wg : Nat} {k : List Item} {cs : List Frame} {Res : Nat → Blocks → Value → World → Prop}
/-- behind Wait. -/
def Behind (mo : Value) (cb fb tb C Wg : Nat) (k : List Item) (cs : List Frame) (T0 : Array Value) (g : Goroutine) (_ : World) : Prop := g = G (bS.at ⟨T0.setIfInBounds 24 (.tuple #[]), []⟩ (.code sT :: k)) cs ∧ ScH mo cb fb tb C Wg 4 T0
/-- what the phase goes on with. -/
def KS (mo : Value) (cb fb tb C Wg : Nat) (k : List Item) (cs : List Frame) (g : Goroutine) (w : World) : Prop := ∃ F T, MG Tryz.prog link.tWg Wg F (Behind mo cb fb tb C Wg k cs T) g w

set_option maxRecDepth 100000 in
theorem sWait {F O : Blocks} {w : World} {T0 : Array Value} (hT0 : ScH mo cb fb tb C Wg 4 T0) (hF : FOk F O w) :
    WG Tryz.prog true (Scr Tryz.prog link.tWg Wg C 4 Res (KS mo cb fb tb C Wg k cs) 0) F O (G (bS.at ⟨T0, []⟩ (.code sL :: .inLoop sL :: .inBlock 0 :: .code sR :: k)) cs) w := by
  refine sTest hT0 hF (b := false) (decide_eq_false (by decide)) ?_
  refine WG.ctl rfl hF (fun w1 => stepG_exit rfl) ?_
  rw [sR_eq]
  refine WG.ctl rfl hF (fun w1 => stepG_seq) ?_
  refine WG.ctl rfl hF (fun w1 => stepG_region) ?_
  have hT : ScH mo cb fb tb C Wg 4 (T0.setIfInBounds 19 (.bool false)) := ⟨by simp [hT0.size], (tset_ne (by decide)).trans hT0.t4, (tset_ne (by decide)).trans hT0.t5, (tset_ne (by decide)).trans hT0.t6, (tset_ne (by decide)).trans hT0.t10, (tset_ne (by decide)).trans hT0.t11, (tset_ne (by decide)).trans hT0.t18, (tset_ne (by decide)).trans hT0.t3⟩
  change WG _ _ _ _ _ (G (bS.at ⟨T0.setIfInBounds 19 (.bool false), []⟩ (.inRegion R11 [0] :: _)) cs) w
  generalize T0.setIfInBounds 19 (.bool false) = T at *
  obtain ⟨o, ho, hop, hd, hg⟩ : ∃ o, R11[0]? = some o ∧ o.op = .call { callee := .value (.func 57), args := #[.tmp 11], argTypes := #[122] } ∧ o.dst = some 24 ∧ o.guard = none := ⟨_, rfl, rfl, rfl, rfl⟩
  have hwant : Region.wanted o (yielded R11 (Act.mk T []).tmps) = true := by unfold Region.wanted; rw [hg]
  have ev : ∀ w1, (execOp (Act.mk T []).eval o).run Tryz.prog w1 = .ok (.enter 57 #[.pointer (some ⟨Wg, 0, none⟩)]) w1 ∧ (execOp (Act.mk T []).eval o).events Tryz.prog w1 #[] = #[] := fun w1 => by
    have b11 : (Act.mk T []).eval (.tmp 11) = .pointer (some ⟨Wg, 0, none⟩) := hT.t11
    have bf : (Act.mk T []).eval (.func 57) = .func (.func 57) #[] #[] := rfl
    generalize (Act.mk T []).eval = e at *
    unfold execOp
    constructor
    · simp [go_sem, hop, b11, bf]
    · simp [go_sem, hop, b11, bf]
      simp [callFunc, go_sem, Tryz.func57, Tryz.f57]
  refine WG.quiet rfl hF fun w4 e4 => ⟨_, 0, _, stepG_enter ho hwant (by decide) (ev w4).1, fun e' he => ?_, ?_⟩
  · have := mem_listed he
    rw [(ev w4).2] at this
    simp at this
  refine WG.stop fun w5 e5 => ⟨rfl, fun hl => ?_⟩
  refine ⟨Anch link Wg (bS.at ⟨T, []⟩ (.inRegion R11 [0] :: .code sT :: k)) cs, fun g w h => by obtain ⟨T, rfl, _⟩ := h; rfl, fun g w h => ?_, ?_⟩
  · have h1 := waitRound (F := F) wgLib (K := Behind mo cb fb tb C Wg k cs T) (mT := 1) (b₀ := bS) (a₀ := ⟨T, []⟩) (ops₀ := R11) (i₀ := 0) (rest₀ := []) (k₀ := .code sT :: k) (cs := cs) (fun w _ => by
      refine Goes.step rfl fun w1 _ => ?_
      rw [stepG_region_end]
      simp only [goes_go]
      exact ⟨⟨rfl, rfl⟩, fun _ _ => ⟨rfl, hT⟩⟩) g w h
    exact MG.mono h1 fun g w h => AtLd.mono (fun g w h => ⟨F, T, h⟩) h
  · have h2 := waitStart (F := F) (cs := cs) wgLib (c := bS.at ⟨T, []⟩ (.inRegion R11 [0] :: .code sT :: k)) w5 hl
    rw [enter_at _ Tryz.func57 (show Tryz.f57.body = some (body_wait link) from rfl)]
    walk_nrmf Tryz.f57
    exact h2
end
end Go.Proofs.YtkpekiajdlolnabGreat.Ph

/-
  SCAN IN COMPANY, twelfth text: behind the join.
-/
namespace Go.Proofs.YtkpekiajdlolnabGreat.Ph
open Go.Conc Go.ConcN Go.RowKit Go.Conc.Lib Go.ConcR.Gen Go.ConcN.Gen Go Go.Proofs.YtkpekiajdlolnabGreat.Sim
open Go.ConcR (KK wgBlock WgAt stA smA rd wr mk Payload Aside2 DC0 ofEvent_cell)

theorem after_join {mo : Value} {cb fb tb C Wg o L0 : Nat} {k : List Item} {cs : List Frame} {Res : Nat → Blocks → Value → World → Prop} {SB : Blocks} {gs : Array Goroutine} {a : Goroutine} {w w0 : World} {sl : Option (Nat × Nat)} {t : Trace} {D : Nat → WX} {FM : Blocks} {q : Nat → Nat}
    (hJ : Joined Tryz.prog o Wg C 4 SB Res (KS mo cb fb tb C Wg k cs) L0 w0 gs a w t D FM q) :
    ∃ (N : Nat) (gs' : Array Goroutine) (T : Array Value) (d : Nat) (sl' : Option (Nat × Nat)) (t' : Trace) (q' : Nat → Nat), runNT Tryz.prog N (crowd gs w sl) t = (.next (crowd gs' (w.at d) sl'), t') ∧ gs'.size = gs.size ∧
      gs'[0]? = some (G (bS.at ⟨T.setIfInBounds 24 (.tuple #[]), []⟩ (.code sT :: k)) cs) ∧ ScH mo cb fb tb C Wg 4 T ∧ Leavers Tryz.prog t' gs' q' ∧ PastW (fun b => SB b ∨ b = Wg) (w.at d) gs'.size t' := by
  obtain ⟨F, T, m, hg⟩ := hJ.k
  obtain ⟨N, gs', a', d, sl', t', q', h1, h2, h3, ⟨h4, h5⟩, h6, h7⟩ := beside_dc0 (P := Tryz.prog) (SB := fun b => SB b ∨ b = Wg) (R := RM link.tWg Wg F) (Stop := Behind mo cb fb tb C Wg k cs T) (fun w d => ⟨⟨Nat.le_refl _, fun _ _ => rfl⟩, id⟩) (fun g w h => by rw [h.1]; rfl) m gs a w sl t q hJ.main hJ.leavers hJ.past hg
  subst h4
  exact ⟨N, gs', T, d, sl', t', q', h1, h2, h3, h5, h6, h7⟩
end Go.Proofs.YtkpekiajdlolnabGreat.Ph

/-
  SCAN IN COMPANY, thirteenth text: ONE OPERATION's step, out of the simulation, with temporaries of one's own.
-/
namespace Go.Proofs.YtkpekiajdlolnabGreat.Ph
open Go Go.Conc Go.ConcN Go.Proofs.YtkpekiajdlolnabGreat.Sim

section
variable {X : Cx} {Fb : FuncId → Bool} {sp : FuncId → Bool}
/-- 'e': what the operands yield; whatever else the frame holds. -/
theorem op_step (hPP : X.P' = X.P) (S : X.Set Fb true sp) {ρ : Rel} {e : Operand → Value} {o : Oper} {w w1 : World} {v : Value} (hok : okOp X.P X.P' Fb true o = true) (he : EvR X.F Fb ρ e e) (hw : WR X ρ w w) (hr : (execOp e o).run X.P w = .ok (.value v) w1) :
    ∃ ρ1, ρ.le ρ1 ∧ WR X ρ1 w1 w1 ∧ VR X.F ρ1 v v ∧ StepOK (rng ρ) (own X ρ) w (rng ρ1) (own X ρ1) w1 ((execOp e o).events X.P w #[]) ∧ (NB w → NB w1) := by
  have hs := SS.execOp S.ok true S.wrs o hok e e he
  obtain ⟨ρ1, a', w1', es1, h1, h2, h3, h4, h5, h6, h7⟩ := hs.1 w w _ w1 #[] hw hr
  rw [hPP] at h1
  have e1 := congrArg Prod.fst h1
  rw [Sem.runT_fst, hr] at e1
  have e1 : (Result.ok (Next.value v) w1 : Result Next) = .ok a' w1' := e1
  injection e1 with ea ew
  subst ea; subst ew
  have ee : (execOp e o).events X.P w #[] = es1 := by
    have := congrArg Prod.snd h1
    simpa [Sem.runT_eq] using this
  cases h6 with
  | value hv => exact ⟨ρ1, h3.le, h2, hv, by rw [ee]; exact stepOK_of hw h3 h2 h5, fun _ => trivial⟩
end
end Go.Proofs.YtkpekiajdlolnabGreat.Ph

/-
  SCAN IN COMPANY, fourteenth text: the group is made.
-/
namespace Go.Proofs.YtkpekiajdlolnabGreat.Ph
open Go.Conc Go.ConcN Go.RowKit Go.Conc.Lib Go.ConcR.Gen Go.ConcN.Gen Go Go.Proofs.YtkpekiajdlolnabGreat.Sim
open Go.ConcR (KK wgBlock WgAt stA smA rd wr mk Payload Aside2 DC0 ofEvent_cell)

def grownG (w : World) : World := { w with heap := w.heap.push (wgBlock link.tWg 0 0) }
theorem sAllocG {e : Operand → Value} {o : Oper} (hop : o.op = .alloc 122) (w : World) : (execOp e o).run Tryz.prog w = .ok (.value (.pointer (some ⟨w.heap.size, 0, none⟩))) (grownG w) ∧ (execOp e o).events Tryz.prog w #[] = #[] := by
  unfold execOp
  constructor
  · simp [go_sem, hop, grownG, Instr.alloc, wgBlock]
  · simp [go_sem, hop, Instr.alloc]
theorem grownG_at {w : World} : WgAt link.tWg w.heap.size (grownG w) 0 0 := by
  show (w.heap.push _)[_]? = _
  rw [Array.getElem?_push, if_pos rfl]
noncomputable def R4 : Array Oper := match sBody with | .seq _ (.seq _ (.seq _ (.seq a _))) => rg a | _ => #[]
theorem group_made {gs : Array Goroutine} {a : Act} {k : List Item} {cs : List Frame} {w : World} {sl : Option (Nat × Nat)} {t : Trace} {q : Nat → Nat} {SB : Blocks} (h0 : gs[0]? = some (G (bS.at a (.inRegion R4 [0] :: k)) cs)) (hL : Leavers Tryz.prog t gs q) (hP : PastW SB w gs.size t) :
    ∃ (gs' : Array Goroutine) (d : Nat) (sl' : Option (Nat × Nat)) (t' : Trace) (q' : Nat → Nat), Runs Tryz.prog gs w sl t gs' (grownG (w.at d)) sl' t' ∧ gs'.size = gs.size ∧ gs'[0]? = some (G (bS.at (a.put (some 11) (.pointer (some ⟨w.heap.size, 0, none⟩))) (.inRegion R4 [] :: k)) cs) ∧
      Leavers Tryz.prog t' gs' q' ∧ PastW SB (grownG (w.at d)) gs'.size t' ∧ WgAt link.tWg w.heap.size (grownG (w.at d)) 0 0 ∧ ∀ x : Addr, x.block = w.heap.size → Fresh t' (.cell x) := by
  obtain ⟨o, ho, hop, hd, hg⟩ : ∃ o, R4[0]? = some o ∧ o.op = .alloc 122 ∧ o.dst = some 11 ∧ o.guard = none := ⟨_, rfl, rfl, rfl, rfl⟩
  have hwant : Region.wanted o (yielded R4 a.tmps) = true := by unfold Region.wanted; rw [hg]
  have hs : ∀ d, stepG Tryz.prog true (G (bS.at a (.inRegion R4 [0] :: k)) cs) (w.at d) = .go (G (bS.at (a.put (some 11) (.pointer (some ⟨w.heap.size, 0, none⟩))) (.inRegion R4 [] :: k)) cs) (grownG (w.at d)) #[] := fun d => by
    have hl : listed Tryz.prog bS.fn a o (w.at d) = #[] := by unfold listed; rw [(sAllocG hop _).2, seen_none]
    have := stepG_value (P := Tryz.prog) (main := true) (b := bS) (k := k) (cs := cs) (rest := []) ho hwant (by decide) (sAllocG (e := a.eval) hop (w.at d)).1
    rw [hl, hd] at this
    exact this
  have hsz : ∀ d, (grownG (w.at d)).heap.size = w.heap.size + 1 := fun d => by
    show (w.heap.push _).size = _
    rw [Array.size_push]
  obtain ⟨N, gs', a', d, w', es, sl', t', q', h1, h2, h3, h4, h5, h6, h7⟩ := beside_one (P := Tryz.prog) (SB := SB) (sl := sl) h0 rfl hL hP fun d => ⟨_, _, _, hs d, by rw [hsz]; exact Nat.le_succ _, by simp⟩
  rw [hs d] at h2
  injection h2 with e1 e2 e3
  subst e1; subst e2; subst e3
  refine ⟨gs', d, sl', t', q', ⟨N, h1⟩, h3, h4, h5, h6, grownG_at (w := w.at d), fun x hx => h7 _ (fresh_cell (B := w.heap.size) (fun op hop => hP.seen op hop) (by omega)) (by simp)⟩
end Go.Proofs.YtkpekiajdlolnabGreat.Ph

/-
  SCAN IN COMPANY, fifteenth text: words for silent stretches of goroutine 0; the tail's first regions.
-/
namespace Go.Proofs.YtkpekiajdlolnabGreat.Ph
open Go Go.Conc Go.ConcN Go.Proofs.YtkpekiajdlolnabGreat.Sim

section
variable {P : Program} {b : Frame} {a : Act} {k : List Item} {cs cs' : List Frame} {ops : Array Oper} {i : Nat} {rest : List Nat} {o : Oper} {fr fr1 fr' : Frame}
theorem Sil.ctl (h : ∀ w, stepG P true (G fr cs) w = .go (G fr1 cs) w #[]) (n : Sil P fr1 cs fr' cs') : Sil P fr cs fr' cs' := .step h n
theorem Sil.value (v : Value) (ho : ops[i]? = some o) (hw : Region.wanted o (yielded ops a.tmps) = true) (hk : b.kind ≠ .early)
    (hr : ∀ w, (execOp a.eval o).run P w = .ok (.value v) w ∧ (execOp a.eval o).events P w #[] = #[])
    (n : Sil P (b.at (a.put o.dst v) (.inRegion ops rest :: k)) cs fr' cs') : Sil P (b.at a (.inRegion ops (i :: rest) :: k)) cs fr' cs' :=
  .step (fun w => by
    rw [stepG_value ho hw hk (hr w).1]
    unfold listed
    rw [(hr w).2, seen_none]) n
theorem Sil.trans {fr fr1 fr2 : Frame} {cs cs1 cs2 : List Frame} (h : Sil P fr cs fr1 cs1) (k : Sil P fr1 cs1 fr2 cs2) : Sil P fr cs fr2 cs2 := by
  induction h with
  | refl => exact k
  | step h _ ih => exact .step h (ih k)
end

noncomputable def R12 : Array Oper := match sT with | .seq a _ => rg a | _ => #[]
noncomputable def sT2 : Code := match sT with | .seq _ c => c | _ => .skip
noncomputable def R13 : Array Oper := match sT2 with | .seq (.seq a _) _ => rg a | _ => #[]
noncomputable def tL : Code := match sT2 with | .seq (.seq _ (.block _ (.loop c))) _ => c | _ => .skip
noncomputable def tE : Code := match sT2 with | .seq _ c => c | _ => .skip
theorem sT_eq : sT = .seq (.region 12 R12 false) sT2 := rfl
theorem sT2_eq : sT2 = .seq (.seq (.region 13 R13 false) (.block 2 (.loop tL))) tE := rfl
noncomputable def tIn : Code := match tL with | .seq _ (.seq _ (.seq (.block _ c) _)) => c | _ => .skip
noncomputable def R14 : Array Oper := match tL with | .seq a _ => rg a | _ => #[]
noncomputable def R17 : Array Oper := match tL with | .seq _ (.seq _ (.seq _ a)) => rg a | _ => #[]
noncomputable def R15 : Array Oper := match tIn with | .seq a _ => rg a | _ => #[]
noncomputable def R16 : Array Oper := match tIn with | .seq _ a => rg a | _ => #[]
noncomputable def R18 : Array Oper := match tE with | .seq a _ => rg a | _ => #[]
theorem tL_eq : tL = .seq (.region 14 R14 false) (.seq (.cond (.tmp 27) .skip (.exit 2)) (.seq (.block 3 tIn) (.region 17 R17 false))) := rfl
theorem tIn_eq : tIn = .seq (.region 15 R15 false) (.region 16 R16 false) := rfl
theorem tE_eq : tE = .seq (.region 18 R18 false) .ret := rfl
end Go.Proofs.YtkpekiajdlolnabGreat.Ph

/-
  SCAN IN COMPANY, sixteenth text: the tail, silent stretches.
-/
namespace Go.Proofs.YtkpekiajdlolnabGreat.Ph
open Go Go.Conc Go.ConcN Go.Proofs.YtkpekiajdlolnabGreat.Sim

section
variable {T : Array Value} {k : List Item} {cs : List Frame}
theorem tOpen : Sil Tryz.prog (bS.at ⟨T, []⟩ (.code sT :: k)) cs (bS.at ⟨T.setIfInBounds 13 (.slice none 0 0), []⟩ (.inRegion R13 [0, 1] :: .code (.block 2 (.loop tL)) :: .code tE :: k)) cs := by
  rw [sT_eq]
  refine Sil.ctl (fun w1 => stepG_seq) ?_
  refine Sil.ctl (fun w1 => stepG_region) ?_
  change Sil _ (bS.at ⟨T, []⟩ (.inRegion R12 [0] :: _)) _ _ _
  obtain ⟨o, ho, hop, hd, hg⟩ : ∃ o, R12[0]? = some o ∧ o.op = .assign (.const (.slice none 0 0)) ∧ o.dst = some 13 ∧ o.guard = none := ⟨_, rfl, rfl, rfl, rfl⟩
  have hwant : Region.wanted o (yielded R12 (Act.mk T []).tmps) = true := by unfold Region.wanted; rw [hg]
  refine Sil.value (.slice none 0 0) ho hwant (by decide) (fun w => ?_) ?_
  · have bc : (Act.mk T []).eval (.const (.slice none 0 0)) = .slice none 0 0 := rfl
    generalize (Act.mk T []).eval = e at *
    unfold execOp
    constructor
    · simp [go_sem, hop, bc]
    · simp [go_sem, hop, bc]
  rw [hd]
  change Sil _ (bS.at ⟨T.setIfInBounds 13 (.slice none 0 0), []⟩ (.inRegion R12 [] :: _)) _ _ _
  refine Sil.ctl (fun w1 => stepG_region_end) ?_
  rw [sT2_eq]
  refine Sil.ctl (fun w1 => stepG_seq) ?_
  refine Sil.ctl (fun w1 => stepG_seq) ?_
  refine Sil.ctl (fun w1 => stepG_region) ?_
  exact Sil.refl _ _
/-- the tail's test. -/
theorem tTest {i : Nat} (hsz : T.size = 42) (h26 : T.getD 26 undef = .int .i64 i) {b : Bool} (hb : decide ((i : Int) < 4) = b) :
    Sil Tryz.prog (bS.at ⟨T, []⟩ (.code tL :: k)) cs (bS.at ⟨T.setIfInBounds 27 (.bool b), []⟩ (.code (if b then .skip else .exit 2) :: .code (.seq (.block 3 tIn) (.region 17 R17 false)) :: k)) cs := by
  rw [tL_eq]
  refine Sil.ctl (fun w1 => stepG_seq) ?_
  refine Sil.ctl (fun w1 => stepG_region) ?_
  change Sil _ (bS.at ⟨T, []⟩ (.inRegion R14 [0] :: _)) _ _ _
  obtain ⟨o, ho, hop, hd, hg⟩ : ∃ o, R14[0]? = some o ∧ o.op = .binOp .lss 3 (.tmp 26) (.const (.int .i64 4)) 3 ∧ o.dst = some 27 ∧ o.guard = none := ⟨_, rfl, rfl, rfl, rfl⟩
  have hwant : Region.wanted o (yielded R14 (Act.mk T []).tmps) = true := by unfold Region.wanted; rw [hg]
  refine Sil.value (.bool b) ho hwant (by decide) (fun w1 => ?_) ?_
  · have b26 : (Act.mk T []).eval (.tmp 26) = .int .i64 i := h26
    have bc : (Act.mk T []).eval (.const (.int .i64 4)) = .int .i64 4 := rfl
    generalize (Act.mk T []).eval = e at *
    unfold execOp
    constructor
    · simp [go_sem, hop, b26, bc, hb]
    · simp [go_sem, hop, b26, bc]
  rw [hd]
  change Sil _ (bS.at ⟨T.setIfInBounds 27 (.bool b), []⟩ (.inRegion R14 [] :: _)) _ _ _
  refine Sil.ctl (fun w1 => stepG_region_end) ?_
  refine Sil.ctl (fun w1 => stepG_seq) ?_
  have hc : (Act.mk (T.setIfInBounds 27 (.bool b)) []).eval (.tmp 27) = .bool b := tset_same (by rw [hsz]; omega)
  exact Sil.ctl (fun w1 => stepG_cond hc) (Sil.refl _ _)
/-- the tail's end: out and OK are laid; the frame is on its way out. -/
theorem tEnd {v : Value} (hsz : T.size = 42) (h13 : T.getD 13 undef = v) :
    Sil Tryz.prog (bS.at ⟨T, []⟩ (.code tE :: k)) cs { bS.at ⟨((T.setIfInBounds 41 v).setIfInBounds 8 v).setIfInBounds 9 (.int .i64 0), []⟩ (.code .ret :: k) with mode := .returning } cs := by
  rw [tE_eq]
  refine Sil.ctl (fun w1 => stepG_seq) ?_
  refine Sil.ctl (fun w1 => stepG_region) ?_
  change Sil _ (bS.at ⟨T, []⟩ (.inRegion R18 [0, 1, 2] :: _)) _ _ _
  obtain ⟨o, ho, hop, hd, hg⟩ : ∃ o, R18[0]? = some o ∧ o.op = .move (.tmp 13) ∧ o.dst = some 41 ∧ o.guard = none := ⟨_, rfl, rfl, rfl, rfl⟩
  have hwant : Region.wanted o (yielded R18 (Act.mk T []).tmps) = true := by unfold Region.wanted; rw [hg]
  refine Sil.value v ho hwant (by decide) (fun w1 => ?_) ?_
  · have b13 : (Act.mk T []).eval (.tmp 13) = v := h13
    generalize (Act.mk T []).eval = e at *
    unfold execOp
    constructor
    · simp [go_sem, hop, b13]
    · simp [go_sem, hop, b13]
  rw [hd]
  change Sil _ (bS.at ⟨T.setIfInBounds 41 v, []⟩ (.inRegion R18 [1, 2] :: _)) _ _ _
  obtain ⟨o1, ho1, hop1, hd1, hg1⟩ : ∃ o, R18[1]? = some o ∧ o.op = .assign (.tmp 41) ∧ o.dst = some 8 ∧ o.guard = none := ⟨_, rfl, rfl, rfl, rfl⟩
  have hwant1 : Region.wanted o1 (yielded R18 (Act.mk (T.setIfInBounds 41 v) []).tmps) = true := by unfold Region.wanted; rw [hg1]
  refine Sil.value v ho1 hwant1 (by decide) (fun w1 => ?_) ?_
  · have b41 : (Act.mk (T.setIfInBounds 41 v) []).eval (.tmp 41) = v := tset_same (by rw [hsz]; omega)
    generalize (Act.mk (T.setIfInBounds 41 v) []).eval = e at *
    unfold execOp
    constructor
    · simp [go_sem, hop1, b41]
    · simp [go_sem, hop1, b41]
  rw [hd1]
  change Sil _ (bS.at ⟨(T.setIfInBounds 41 v).setIfInBounds 8 v, []⟩ (.inRegion R18 [2] :: _)) _ _ _
  obtain ⟨o2, ho2, hop2, hd2, hg2⟩ : ∃ o, R18[2]? = some o ∧ o.op = .assign (.const (.int .i64 0)) ∧ o.dst = some 9 ∧ o.guard = none := ⟨_, rfl, rfl, rfl, rfl⟩
  have hwant2 : Region.wanted o2 (yielded R18 (Act.mk ((T.setIfInBounds 41 v).setIfInBounds 8 v) []).tmps) = true := by unfold Region.wanted; rw [hg2]
  refine Sil.value (.int .i64 0) ho2 hwant2 (by decide) (fun w1 => ?_) ?_
  · have bc : (Act.mk ((T.setIfInBounds 41 v).setIfInBounds 8 v) []).eval (.const (.int .i64 0)) = .int .i64 0 := rfl
    generalize (Act.mk ((T.setIfInBounds 41 v).setIfInBounds 8 v) []).eval = e at *
    unfold execOp
    constructor
    · simp [go_sem, hop2, bc]
    · simp [go_sem, hop2, bc]
  rw [hd2]
  change Sil _ (bS.at ⟨((T.setIfInBounds 41 v).setIfInBounds 8 v).setIfInBounds 9 (.int .i64 0), []⟩ (.inRegion R18 [] :: _)) _ _ _
  refine Sil.ctl (fun w1 => stepG_region_end) ?_
  exact Sil.ctl (fun w1 => rfl) (Sil.refl _ _)
/-- the tail's counter. -/
theorem tNext {i : Nat} (hi : i < 4) (hsz : T.size = 42) (h26 : T.getD 26 undef = .int .i64 i) :
    Sil Tryz.prog (bS.at ⟨T, []⟩ (.inRegion R16 [] :: .inBlock 3 :: .code (.region 17 R17 false) :: .inLoop tL :: k)) cs (bS.at ⟨(T.setIfInBounds 40 (.int .i64 ((i + 1 : Nat) : Int))).setIfInBounds 26 (.int .i64 ((i + 1 : Nat) : Int)), []⟩ (.code tL :: .inLoop tL :: k)) cs := by
  refine Sil.ctl (fun w1 => stepG_region_end) ?_
  refine Sil.ctl (fun w1 => stepG_inBlock) ?_
  refine Sil.ctl (fun w1 => stepG_region) ?_
  change Sil _ (bS.at ⟨T, []⟩ (.inRegion R17 [0, 1] :: _)) _ _ _
  obtain ⟨o, ho, hop, hd, hg⟩ : ∃ o, R17[0]? = some o ∧ o.op = .binOp .add 3 (.tmp 26) (.const (.int .i64 1)) 3 ∧ o.dst = some 40 ∧ o.guard = none := ⟨_, rfl, rfl, rfl, rfl⟩
  have hwant : Region.wanted o (yielded R17 (Act.mk T []).tmps) = true := by unfold Region.wanted; rw [hg]
  refine Sil.value (.int .i64 ((i + 1 : Nat) : Int)) ho hwant (by decide) (fun w1 => ?_) ?_
  · have b26 : (Act.mk T []).eval (.tmp 26) = .int .i64 i := h26
    have bc : (Act.mk T []).eval (.const (.int .i64 1)) = .int .i64 1 := rfl
    have hwrap : IntKind.i64.wrap ((i : Int) + 1) = ((i + 1 : Nat) : Int) := by rw [IntKind.wrap_i64]; omega
    generalize (Act.mk T []).eval = e at *
    unfold execOp
    constructor
    · simp [go_sem, hop, b26, bc, hwrap]
    · simp [go_sem, hop, b26, bc]
  rw [hd]
  change Sil _ (bS.at ⟨T.setIfInBounds 40 (.int .i64 ((i + 1 : Nat) : Int)), []⟩ (.inRegion R17 [1] :: _)) _ _ _
  obtain ⟨o1, ho1, hop1, hd1, hg1⟩ : ∃ o, R17[1]? = some o ∧ o.op = .move (.tmp 40) ∧ o.dst = some 26 ∧ o.guard = none := ⟨_, rfl, rfl, rfl, rfl⟩
  have hwant1 : Region.wanted o1 (yielded R17 (Act.mk (T.setIfInBounds 40 (.int .i64 ((i + 1 : Nat) : Int))) []).tmps) = true := by unfold Region.wanted; rw [hg1]
  refine Sil.value (.int .i64 ((i + 1 : Nat) : Int)) ho1 hwant1 (by decide) (fun w1 => ?_) ?_
  · have b40 : (Act.mk (T.setIfInBounds 40 (.int .i64 ((i + 1 : Nat) : Int))) []).eval (.tmp 40) = .int .i64 ((i + 1 : Nat) : Int) := tset_same (by rw [hsz]; omega)
    generalize (Act.mk (T.setIfInBounds 40 (.int .i64 ((i + 1 : Nat) : Int))) []).eval = e at *
    unfold execOp
    constructor
    · simp [go_sem, hop1, b40]
    · simp [go_sem, hop1, b40]
  rw [hd1]
  change Sil _ (bS.at ⟨(T.setIfInBounds 40 (.int .i64 ((i + 1 : Nat) : Int))).setIfInBounds 26 (.int .i64 ((i + 1 : Nat) : Int)), []⟩ (.inRegion R17 [] :: _)) _ _ _
  refine Sil.ctl (fun w1 => stepG_region_end) ?_
  exact Sil.ctl (fun w1 => stepG_inLoop) (Sil.refl _ _)
end
end Go.Proofs.YtkpekiajdlolnabGreat.Ph

/-
  SCAN IN COMPANY, seventeenth text: goroutine 0 beside leavers, in the words of a walk; the temporaries as a list of what is known.
-/
namespace Go.Proofs.YtkpekiajdlolnabGreat.Ph
open Go Go.Conc Go.ConcN Go.Proofs.YtkpekiajdlolnabGreat.Sim

/-- from this frame goroutine 0 comes, beside leavers, to one over the same callers of which Z holds. -/
def BGo (cs : List Frame) (fr : Frame) (w : World) (SB : Blocks) (Z : Frame → World → Prop) : Prop :=
  ∀ (d : Nat) (gs : Array Goroutine) (sl : Option (Nat × Nat)) (t : Trace) (q : Nat → Nat), gs[0]? = some (G fr cs) → Leavers Tryz.prog t gs q → PastW SB (w.at d) gs.size t →
    ∃ (gs' : Array Goroutine) (fr' : Frame) (w' : World) (sl' : Option (Nat × Nat)) (t' : Trace) (q' : Nat → Nat), Runs Tryz.prog gs (w.at d) sl t gs' w' sl' t' ∧ gs'.size = gs.size ∧ Z fr' w' ∧ gs'[0]? = some (G fr' cs) ∧ Leavers Tryz.prog t' gs' q' ∧ PastW SB w' gs'.size t'
def TH (T : Array Value) (l : List (Nat × Value)) : Prop := T.size = 42 ∧ ∀ p ∈ l, T.getD p.1 undef = p.2
theorem TH.sub {T : Array Value} {l l' : List (Nat × Value)} (h : TH T l) (hs : ∀ p ∈ l', p ∈ l) : TH T l' := ⟨h.1, fun p hp => h.2 p (hs p hp)⟩
theorem TH.set {T : Array Value} {l l' : List (Nat × Value)} (h : TH T l) {d : Nat} (v : Value) (hd : d < 42) (hs : ∀ p ∈ l', p ∈ l ∧ p.1 ≠ d) : TH (T.setIfInBounds d v) ((d, v) :: l') := by
  refine ⟨by simp [h.1], fun p hp => ?_⟩
  rcases List.mem_cons.1 hp with rfl | hp
  · exact tset_same (by rw [h.1]; exact hd)
  · exact (tset_ne (Ne.symm (hs p hp).2)).trans (h.2 p (hs p hp).1)

section
variable {cs : List Frame} {fr fr1 : Frame} {w : World} {SB : Blocks} {Z : Frame → World → Prop} {k : List Item} {T : Array Value}
theorem BGo.done (h : ∀ d, Z fr (w.at d)) : BGo cs fr w SB Z := fun d gs sl t q h0 hL hP => ⟨gs, fr, w.at d, sl, t, q, ⟨0, rfl⟩, rfl, h d, h0, hL, hP⟩
theorem BGo.sil (hs : Sil Tryz.prog fr cs fr1 cs) (n : BGo cs fr1 w SB Z) : BGo cs fr w SB Z := fun d gs sl t q h0 hL hP => by
  obtain ⟨gs1, d1, sl1, t1, q1, h1, h2, h3, h4, h5⟩ := hs.runs (SB := SB) (sl := sl) h0 hL hP
  obtain ⟨gs2, fr2, w2, sl2, t2, q2, k1, k2, k3, k4, k5, k6⟩ := n d1 gs1 sl1 t1 q1 h3 h4 h5
  exact ⟨gs2, fr2, w2, sl2, t2, q2, h1.trans k1, k2.trans h2, k3, k4, k5, k6⟩
/-- a step that may touch memory. -/
theorem BGo.one (hrun : (G fr cs).status = .running) (hs : ∀ d, ∃ fr1 w1 es, stepG Tryz.prog true (G fr cs) (w.at d) = .go (G fr1 cs) w1 es ∧ w.heap.size ≤ w1.heap.size ∧ (∀ e ∈ es, EvZ SB w1.heap.size e) ∧ BGo cs fr1 w1 SB Z) : BGo cs fr w SB Z := fun d gs sl t q h0 hL hP => by
  obtain ⟨N, gs1, a1, d1, w1, es, sl1, t1, q1, hr, hgo, hz, h01, hL1, hP1, _⟩ := beside_one (P := Tryz.prog) (SB := SB) (sl := sl) h0 hrun hL hP fun d => let ⟨fr1, w1, es, h1, h2, h3, _⟩ := hs d; ⟨_, _, _, h1, h2, h3⟩
  obtain ⟨fr1, w1', es', h1, h2, h3, n⟩ := hs d1
  rw [show (w.at d).at d1 = w.at d1 from rfl] at hgo
  rw [h1] at hgo
  injection hgo with e1 e2 e3
  subst e1; subst e2; subst e3
  obtain ⟨gs2, fr2, w2, sl2, t2, q2, k1, k2, k3, k4, k5, k6⟩ := n w1'.drawn gs1 sl1 t1 q1 h01 hL1 hP1
  exact ⟨gs2, fr2, w2, sl2, t2, q2, Runs.trans ⟨N, hr⟩ k1, k2.trans hz, k3, k4, k5, k6⟩
/-- a silent operation that yields v. -/
theorem BGo.val {ops : Array Oper} {i : Nat} {rest : List Nat} {o : Oper} {l l' : List (Nat × Value)} (hT : TH T l) {d : Nat} (v : Value) (ho : ops[i]? = some o) (hdst : o.dst = some d) (hg : o.guard = none) (hd : d < 42) (hs : ∀ p ∈ l', p ∈ l ∧ p.1 ≠ d)
    (hr : ∀ e : Operand → Value, (∀ p ∈ l, e (.tmp p.1) = p.2) → (∀ c, e (.const c) = c) → ∀ w, (execOp e o).run Tryz.prog w = .ok (.value v) w ∧ (execOp e o).events Tryz.prog w #[] = #[])
    (n : ∀ T', TH T' ((d, v) :: l') → BGo cs (bS.at ⟨T', []⟩ (.inRegion ops rest :: k)) w SB Z) : BGo cs (bS.at ⟨T, []⟩ (.inRegion ops (i :: rest) :: k)) w SB Z := by
  have hwant : Region.wanted o (yielded ops (Act.mk T []).tmps) = true := by unfold Region.wanted; rw [hg]
  have ev := hr (Act.mk T []).eval (fun p hp => hT.2 p hp) (fun _ => rfl)
  refine BGo.sil (Sil.value v ho hwant (by decide) ev (.refl _ _)) ?_
  rw [hdst]
  exact n _ (hT.set v hd hs)
end
end Go.Proofs.YtkpekiajdlolnabGreat.Ph

/-
  SCAN IN COMPANY, eighteenth text: the tail's round.
-/
namespace Go.Proofs.YtkpekiajdlolnabGreat.Ph
open Go Go.Conc Go.ConcN Go.Proofs.YtkpekiajdlolnabGreat.Sim

theorem evZ_of {SB F O : Blocks} {B : Nat} {e : Event} (h : EvF F O e) (ha : ∀ b, F b → ¬ SB b) (hB : ∀ b, F b → b < B) : EvZ SB B e := ⟨evL_of h ha hB, fun _ hy => (evF_mem h hy).1⟩
/-- a slice of pairs whose block holds strings alone. -/
def SRow (F : Blocks) (w : World) (v : Value) (n : Nat) (xs : List Value) : Prop :=
  xs.length = n * 2 ∧ ((v = .slice none 0 0 ∧ n = 0) ∨ ∃ g cap cur, v = .slice (some ⟨g, 0, none⟩) n cap ∧ F g ∧ w.heap[g]? = some (.cells cur 74 (0, 0)) ∧ n ≤ cap ∧ cap ≤ maxLen ∧ cur.toList.take (n * 2) = xs ∧ ∀ x ∈ cur.toList, ∃ s, x = .string s)
theorem SRow.ext {F : Blocks} {w w1 : World} {v : Value} {n : Nat} {xs : List Value} (h : SRow F w v n xs) (k : ∀ b, F b → w1.heap[b]? = w.heap[b]?) : SRow F w1 v n xs := by
  refine ⟨h.1, h.2.imp id ?_⟩
  rintro ⟨g, cap, cur, h1, h2, h3, h4⟩
  exact ⟨g, cap, cur, h1, h2, (k g h2).trans h3, h4⟩
/-- the state at the tail's loop. -/
structure TlS (ρ0 : Rel) (w0 : World) (SB : Blocks) (n : Nat) (xs : List Value) (ov : Value) (ρ : Rel) (w : World) : Prop where
  le : ρ0.le ρ
  wr : WR XG ρ w w
  vr : VR XG.F ρ ov ov
  nb : NB w
  own : w.ownsRow w0.heap.size 74 2 ov n xs
  keep : ∀ b, b < w0.heap.size → w.heap[b]? = w0.heap[b]?
  size : w0.heap.size ≤ w.heap.size
  apart : ∀ b, rng ρ b → ¬ SB b
  os : w.os = w0.os
  output : w.output = w0.output
theorem TlS.at {ρ0 ρ : Rel} {w0 w : World} {SB : Blocks} {n : Nat} {xs : List Value} {ov : Value} (h : TlS ρ0 w0 SB n xs ov ρ w) (d : Nat) : TlS ρ0 w0 SB n xs ov ρ (w.at d) :=
  ⟨h.le, ⟨h.wr.fn, h.wr.inj, h.wr.heap, fun _ _ => rfl, h.wr.sh⟩, h.vr, h.nb, h.own, h.keep, h.size, h.apart, h.os, h.output⟩

theorem pairInfo : ∃ i, Tryz.prog.info? 74 = some i ∧ i.zero = some (.agg #[.string ⟨#[]⟩, .string ⟨#[]⟩]) ∧ i.size = 2 ∧ i.bytes = 32 := by
  have h : (Tryz.prog.info? 74).map (fun i => (i.zero, i.size, i.bytes)) = some (some (.agg #[.string ⟨#[]⟩, .string ⟨#[]⟩]), 2, 32) := by kernel_rfl
  obtain ⟨i, h1, h2⟩ := Option.map_eq_some_iff.1 h
  injection h2 with h2 h3
  injection h3 with h3 h4
  exact ⟨i, h1, h2, h3, h4⟩
def ownE (v x : Value) : Operand → Value
  | .tmp 29 => v
  | .tmp 38 => x
  | .const c => c
  | _ => undef
theorem run_append_none {P : Program} {w : World} {t e ty : TypeId} {i : TypeInfo} (ht : P.underlying t = some (.slice e)) (hi : P.info? e = some i) {base : Nat} {v : Value} {n : Nat} {xs : List Value} {size : Nat} (h : w.ownsRow base e size v n xs) :
    (Builtin.append_ #[t, t] ty #[v, .slice none 0 0]).run P w = .ok v w := by
  rcases h.2 with ⟨rfl, rfl⟩ | ⟨g, cap, cur, rfl, h1, h2, h3, h4, h5, h6⟩
  · simp [Builtin.append_, run_underlying ht, sizeOf, typeInfo, hi, Builtin.lenOf, Builtin.firstCells, loadCells, loadCellsFrom]
  · simp [Builtin.append_, run_underlying ht, sizeOf, typeInfo, hi, Builtin.lenOf, Builtin.firstCells, loadCells, loadCellsFrom, storeCells, h3]

section
variable {cs : List Frame} {SB : Blocks} {Z : Frame → World → Prop} {k : List Item} {T : Array Value} {ρ0 ρ : Rel} {w0 w : World} {n : Nat} {xs : List Value} {ov : Value}
set_option maxRecDepth 100000 in
/-- the append of what has been cut off. -/
theorem tAppend {sa : Option Addr} {lv : Value} {m c kk : Nat} {r : List Value} {l l' : List (Nat × Value)} (h : TlS ρ0 w0 SB n xs ov ρ w) {Gb : Blocks} (hG : ∀ b, Gb b → b < w0.heap.size ∧ ρ0 b b) (hlv : lv = .slice sa m c) (hr : SRow Gb w0 lv m r) (hkk : kk ≤ m) (hSB : ∀ b, SB b → b < w0.heap.size) (hn : n + kk ≤ 1073741824)
    (hT : TH T l) (h29 : (29, ov) ∈ l) (h38 : (38, .slice sa kk c) ∈ l) (hl' : ∀ p ∈ l', p ∈ l ∧ p.1 ≠ 39 ∧ p.1 ≠ 13)
    (nx : ∀ T' ov' ρ' w', TlS ρ0 w0 SB (n + kk) (xs ++ r.take (kk * 2)) ov' ρ' w' → TH T' ((13, ov') :: l') → BGo cs (bS.at ⟨T', []⟩ (.inRegion R16 [] :: k)) w' SB Z) :
    BGo cs (bS.at ⟨T, []⟩ (.inRegion R16 [10, 11] :: k)) w SB Z := by
  obtain ⟨o, ho, hop, hd, hg⟩ : ∃ o, R16[10]? = some o ∧ o.op = .call { callee := .builtin .append, args := #[.tmp 29, .tmp 38], argTypes := #[47, 47] } ∧ o.dst = some 39 ∧ o.guard = none := ⟨_, rfl, rfl, rfl, rfl⟩
  have hok : okOp XG.P XG.P' fb true o = true := by
    have : R16[10]?.any (okOp Tryz.prog Tryz.prog fb true) = true := by kernel_rfl
    rw [ho] at this
    exact this
  obtain ⟨i, hi, hz, hs, hb⟩ := pairInfo
  have hu : Tryz.prog.underlying 47 = some (.slice 74) := Tryz.underlying47
  have hwant : Region.wanted o (yielded R16 (Act.mk T []).tmps) = true := by unfold Region.wanted; rw [hg]
  have e29 : (Act.mk T []).eval (.tmp 29) = ov := hT.2 _ h29
  have e38 : (Act.mk T []).eval (.tmp 38) = .slice sa kk c := hT.2 _ h38
  have hsame : execOp (Act.mk T []).eval o = execOp (ownE ov (.slice sa kk c)) o := by
    unfold execOp
    simp only [hop, List.map_toArray, List.map_cons, List.map_nil, e29, e38, ownE, resolve]
  refine BGo.one rfl fun d => ?_
  have hd' := h.at d
  -- what it yields
  have hrun : ∃ v' w', (Builtin.append_ #[47, 47] o.type #[ov, .slice sa kk c]).run Tryz.prog (w.at d) = .ok v' w' ∧ w'.ownsRow w0.heap.size 74 2 v' (n + kk) (xs ++ r.take (kk * 2)) ∧ (w.at d).grownBy w' ov.ownBlock := by
    rcases hr.2 with ⟨e, rfl⟩ | ⟨g, cap, cur, e, h1, h2, h3, h4, h5, h6⟩
    · obtain rfl : kk = 0 := by omega
      rw [hlv] at e
      injection e with e1 e2 e3
      subst e1; subst e3
      refine ⟨ov, w.at d, run_append_none hu hi hd'.own, ?_, ⟨rfl, rfl, rfl, Nat.le_refl _, fun _ _ _ => rfl⟩⟩
      simpa using hd'.own
    · rw [hlv] at e
      injection e with e1 e2 e3
      subst e1; subst e3
      obtain ⟨v', w', k1, k2, k3, _⟩ := run_append_own (P := Tryz.prog) (w.at d) w0.heap.size 47 o.type 74 i (.agg #[.string ⟨#[]⟩, .string ⟨#[]⟩]) 2 32 hu hi hz hs hb rfl (by decide) ov n xs hd'.own ⟨g, 0, none⟩ kk c (r.take (kk * 2))
        (by rw [List.length_take, hr.1]; omega)
        (fun j u hj => by
          have hjl : j < kk * 2 := by
            have := (List.getElem?_eq_some_iff.1 hj).1
            rw [List.length_take] at this
            omega
          rw [List.getElem?_take_of_lt hjl] at hj
          rw [← h5, List.getElem?_take_of_lt (by omega)] at hj
          have hgh : w.heap[g]? = some (.cells cur 74 (0, 0)) := (h.keep g (hG g h1).1).trans h2
          have ea : (⟨g, 0, none⟩ : Addr).add j = ⟨g, j, none⟩ := by rw [Addr.add_lit, Nat.zero_add]
          rw [ea]
          show w.cell? ⟨g, j, none⟩ = some u
          simp only [World.cell?, hgh]
          simpa using hj)
        (fun u hu => by
          have hm : u ∈ cur.toList := by
            have := List.mem_of_mem_take hu
            rw [← h5] at this
            exact List.mem_of_mem_take this
          obtain ⟨s, rfl⟩ := h6 u hm
          rfl)
        (by unfold maxLen; omega) (by omega) hd'.size
      exact ⟨v', w', k1, k2, k3⟩
  obtain ⟨v', w', k1, k2, k3⟩ := hrun
  have hexec : (execOp (ownE ov (.slice sa kk c)) o).run XG.P (w.at d) = .ok (.value v') w' := by
    unfold execOp
    show Sem.run Tryz.prog _ _ = _
    simp only [hop, resolve, invoke, builtin, Sem.run_bind, Sem.run_pure, Result.andThen_ok, List.map_toArray, List.map_cons, List.map_nil, ownE, k1]
  have hvx : VR XG.F ρ (.slice sa kk c) (.slice sa kk c) := by
    rcases hr.2 with ⟨e, _⟩ | ⟨g, cap, cur, e, h1, _⟩
    · rw [hlv] at e; injection e with e1 e2 e3; subst e1; exact .sliceNil _ _
    · rw [hlv] at e; injection e with e1 e2 e3; subst e1; exact .slice (h.le _ _ (hG g h1).2)
  have hev : EvR XG.F fb ρ (ownE ov (.slice sa kk c)) (ownE ov (.slice sa kk c)) := by
    refine ⟨fun x hx => ?_, fun _ => rfl⟩
    unfold ownE
    split
    · exact h.vr
    · exact hvx
    · exact flat_refl (fun _ h => h) _ hx
    · exact undefR
  obtain ⟨ρ1, m1, m2, m3, m4, m5⟩ := op_step rfl setXG hok hev hd'.wr hexec
  have hap : ∀ b, rng ρ1 b → ¬ SB b := fun b hb hs => by
    rcases m4.new b hb with h1 | h1
    · exact h.apart b h1 hs
    · have := hSB b hs
      have h2 : w.heap.size ≤ b := h1
      have := h.size
      omega
  have hst := stepG_value (P := Tryz.prog) (main := true) (b := bS) (k := k) (cs := cs) (rest := [11]) (a := Act.mk T []) (w := w.at d) ho hwant (by decide) (by rw [hsame]; exact hexec)
  have hT' : TlS ρ0 w0 SB (n + kk) (xs ++ r.take (kk * 2)) v' ρ1 w' := by
    refine ⟨Rel.le_trans h.le m1, m2, m3, m5 h.nb, k2, fun b hb => ?_, Nat.le_trans h.size k3.size, hap, k3.os.trans h.os, k3.output.trans h.output⟩
    refine (k3.block b (Nat.lt_of_lt_of_le hb h.size) fun e => ?_).trans (h.keep b hb)
    have := (h.own.lt b e.symm).1
    omega
  refine ⟨_, w', _, hst, k3.size, fun e he => ?_, ?_⟩
  · have := mem_listed he
    rw [hsame] at this
    exact evZ_of (m4.ev e this) hap m4.low
  · rw [hd]
    have hTs : TH (T.setIfInBounds 39 v') ((39, v') :: l') := hT.set v' (by decide) fun p hp => ⟨(hl' p hp).1, (hl' p hp).2.1⟩
    change BGo cs (bS.at ⟨T.setIfInBounds 39 v', []⟩ (.inRegion R16 [11] :: k)) w' SB Z
    obtain ⟨o1, ho1, hop1, hd1, hg1⟩ : ∃ o, R16[11]? = some o ∧ o.op = .assign (.tmp 39) ∧ o.dst = some 13 ∧ o.guard = none := ⟨_, rfl, rfl, rfl, rfl⟩
    refine BGo.val hTs v' ho1 hd1 hg1 (by decide) (l' := l') (fun p hp => ⟨.tail _ hp, (hl' p hp).2.2⟩) (fun e he hc w => ?_) fun T1 hT1 => nx T1 v' ρ1 w' hT' hT1
    have b39 := he (39, v') (.head _)
    unfold execOp
    constructor
    · simp [go_sem, hop1, b39]
    · simp [go_sem, hop1, b39]
end
end Go.Proofs.YtkpekiajdlolnabGreat.Ph

/-
  SCAN IN COMPANY, nineteenth text: the tail's whole loop. (Printed in part by an own program.)
-/
namespace Go.Proofs.YtkpekiajdlolnabGreat.Ph
open Go Go.Conc Go.ConcN Go.Proofs.YtkpekiajdlolnabGreat.Sim

section
variable {cs : List Frame} {SB : Blocks} {Z : Frame → World → Prop} {k : List Item} {T : Array Value} {w : World} {ov lv : Value} {fs : Array Value} {most : Int}
/-- region 15: the slice is taken out of the array. -/
theorem tIndex {i : Nat} (hi : i < 4) (hv : fs[i]? = some lv) (hT : TH T [(13, ov), (25, .agg fs), (26, .int .i64 i), (3, .int .i64 most)])
    (n : ∀ T', TH T' [(15, lv), (13, ov), (25, .agg fs), (26, .int .i64 i), (3, .int .i64 most)] → BGo cs (bS.at ⟨T', []⟩ (.code (.region 16 R16 false) :: k)) w SB Z) :
    BGo cs (bS.at ⟨T, []⟩ (.code tIn :: k)) w SB Z := by
  rw [tIn_eq]
  refine BGo.sil (Sil.ctl (fun w1 => stepG_seq) (Sil.ctl (fun w1 => stepG_region) (.refl _ _))) ?_
  change BGo cs (bS.at ⟨T, []⟩ (.inRegion R15 [0, 1] :: _)) _ _ _
  obtain ⟨o150, ho150, hop150, hd150, hg150⟩ : ∃ o, R15[0]? = some o ∧ o.op = .index 112 (.tmp 25) (.tmp 26) ∧ o.dst = some 28 ∧ o.guard = none := ⟨_, rfl, rfl, rfl, rfl⟩
  refine BGo.val hT (lv) ho150 hd150 hg150 (by decide) (l' := [(13, ov), (25, .agg fs), (26, .int .i64 i), (3, .int .i64 most)]) (by simp) (fun e he hc w => ?_) fun T hT => ?_
  · have b26 := he (26, .int .i64 i) (by simp)
    have b25 := he (25, .agg fs) (by simp)
    unfold execOp
    constructor
    · simp [go_sem, hop150, b26, b25, hv, Instr.index, part]; try (intro h4; omega)
    · simp [go_sem, hop150, b26, b25, hv, Instr.index, part]; try (intro h4; omega)
  obtain ⟨o151, ho151, hop151, hd151, hg151⟩ : ∃ o, R15[1]? = some o ∧ o.op = .assign (.tmp 28) ∧ o.dst = some 15 ∧ o.guard = none := ⟨_, rfl, rfl, rfl, rfl⟩
  refine BGo.val hT (lv) ho151 hd151 hg151 (by decide) (l' := [(13, ov), (25, .agg fs), (26, .int .i64 i), (3, .int .i64 most)]) (by simp) (fun e he hc w => ?_) fun T hT => ?_
  · have b28 := he (28, lv) (by simp)
    unfold execOp
    constructor
    · simp [go_sem, hop151, b28]
    · simp [go_sem, hop151, b28]
  refine BGo.sil (Sil.ctl (fun w1 => stepG_region_end) (.refl _ _)) ?_
  exact n T hT

set_option maxHeartbeats 2000000 in
/-- region 16, up to the append. -/
theorem tCut {i : Nat} {sa : Option Addr} {m c nn kk : Nat} {oa : Option Addr} {oc : Nat} (hlv : lv = .slice sa m c) (hov : ov = .slice oa nn oc) (h0 : (nn : Int) ≤ most) (h1 : most ≤ 9223372036854775807) (hkk : (kk : Int) = if most - nn < m then most - nn else m) (hmc : m ≤ c)
    (hT : TH T [(15, lv), (13, ov), (25, .agg fs), (26, .int .i64 i), (3, .int .i64 most)])
    (n : ∀ T', TH T' [(38, .slice sa kk c), (29, ov), (25, .agg fs), (26, .int .i64 i), (3, .int .i64 most)] → BGo cs (bS.at ⟨T', []⟩ (.inRegion R16 [10, 11] :: k)) w SB Z) :
    BGo cs (bS.at ⟨T, []⟩ (.code (.region 16 R16 false) :: k)) w SB Z := by
  subst hlv
  subst hov
  have hkm : kk ≤ m := by split at hkk <;> omega
  have hkc : kk ≤ c := by omega
  have hwrap : IntKind.i64.wrap (most - nn) = most - nn := by rw [IntKind.wrap_i64]; omega
  refine BGo.sil (Sil.ctl (fun w1 => stepG_region) (.refl _ _)) ?_
  change BGo cs (bS.at ⟨T, []⟩ (.inRegion R16 [0, 1, 2, 3, 4, 5, 6, 7, 8, 9, 10, 11] :: _)) _ _ _
  obtain ⟨o160, ho160, hop160, hd160, hg160⟩ : ∃ o, R16[0]? = some o ∧ o.op = .move (.tmp 13) ∧ o.dst = some 29 ∧ o.guard = none := ⟨_, rfl, rfl, rfl, rfl⟩
  refine BGo.val hT (.slice oa nn oc) ho160 hd160 hg160 (by decide) (l' := [(15, .slice sa m c), (13, .slice oa nn oc), (25, .agg fs), (26, .int .i64 i), (3, .int .i64 most)]) (by simp) (fun e he hc w => ?_) fun T hT => ?_
  · have b13 := he (13, .slice oa nn oc) (by simp)
    unfold execOp
    constructor
    · simp [go_sem, hop160, b13]
    · simp [go_sem, hop160, b13]
  obtain ⟨o161, ho161, hop161, hd161, hg161⟩ : ∃ o, R16[1]? = some o ∧ o.op = .move (.tmp 15) ∧ o.dst = some 30 ∧ o.guard = none := ⟨_, rfl, rfl, rfl, rfl⟩
  refine BGo.val hT (.slice sa m c) ho161 hd161 hg161 (by decide) (l' := [(29, .slice oa nn oc), (15, .slice sa m c), (13, .slice oa nn oc), (25, .agg fs), (26, .int .i64 i), (3, .int .i64 most)]) (by simp) (fun e he hc w => ?_) fun T hT => ?_
  · have b15 := he (15, .slice sa m c) (by simp)
    unfold execOp
    constructor
    · simp [go_sem, hop161, b15]
    · simp [go_sem, hop161, b15]
  obtain ⟨o162, ho162, hop162, hd162, hg162⟩ : ∃ o, R16[2]? = some o ∧ o.op = .move (.tmp 15) ∧ o.dst = some 31 ∧ o.guard = none := ⟨_, rfl, rfl, rfl, rfl⟩
  refine BGo.val hT (.slice sa m c) ho162 hd162 hg162 (by decide) (l' := [(30, .slice sa m c), (29, .slice oa nn oc), (15, .slice sa m c), (13, .slice oa nn oc), (25, .agg fs), (26, .int .i64 i), (3, .int .i64 most)]) (by simp) (fun e he hc w => ?_) fun T hT => ?_
  · have b15 := he (15, .slice sa m c) (by simp)
    unfold execOp
    constructor
    · simp [go_sem, hop162, b15]
    · simp [go_sem, hop162, b15]
  obtain ⟨o163, ho163, hop163, hd163, hg163⟩ : ∃ o, R16[3]? = some o ∧ o.op = .call { callee := .builtin .len, args := #[.tmp 31], argTypes := #[47] } ∧ o.dst = some 32 ∧ o.guard = none := ⟨_, rfl, rfl, rfl, rfl⟩
  refine BGo.val hT (.int .i64 m) ho163 hd163 hg163 (by decide) (l' := [(31, .slice sa m c), (30, .slice sa m c), (29, .slice oa nn oc), (15, .slice sa m c), (13, .slice oa nn oc), (25, .agg fs), (26, .int .i64 i), (3, .int .i64 most)]) (by simp) (fun e he hc w => ?_) fun T hT => ?_
  · have b31 := he (31, .slice sa m c) (by simp)
    unfold execOp
    constructor
    · simp [go_sem, hop163, b31, Builtin.len_]
    · simp [go_sem, hop163, b31, Builtin.len_]
  obtain ⟨o164, ho164, hop164, hd164, hg164⟩ : ∃ o, R16[4]? = some o ∧ o.op = .move (.tmp 3) ∧ o.dst = some 33 ∧ o.guard = none := ⟨_, rfl, rfl, rfl, rfl⟩
  refine BGo.val hT (.int .i64 most) ho164 hd164 hg164 (by decide) (l' := [(32, .int .i64 m), (31, .slice sa m c), (30, .slice sa m c), (29, .slice oa nn oc), (15, .slice sa m c), (13, .slice oa nn oc), (25, .agg fs), (26, .int .i64 i), (3, .int .i64 most)]) (by simp) (fun e he hc w => ?_) fun T hT => ?_
  · have b3 := he (3, .int .i64 most) (by simp)
    unfold execOp
    constructor
    · simp [go_sem, hop164, b3]
    · simp [go_sem, hop164, b3]
  obtain ⟨o165, ho165, hop165, hd165, hg165⟩ : ∃ o, R16[5]? = some o ∧ o.op = .move (.tmp 13) ∧ o.dst = some 34 ∧ o.guard = none := ⟨_, rfl, rfl, rfl, rfl⟩
  refine BGo.val hT (.slice oa nn oc) ho165 hd165 hg165 (by decide) (l' := [(33, .int .i64 most), (32, .int .i64 m), (31, .slice sa m c), (30, .slice sa m c), (29, .slice oa nn oc), (15, .slice sa m c), (13, .slice oa nn oc), (25, .agg fs), (26, .int .i64 i), (3, .int .i64 most)]) (by simp) (fun e he hc w => ?_) fun T hT => ?_
  · have b13 := he (13, .slice oa nn oc) (by simp)
    unfold execOp
    constructor
    · simp [go_sem, hop165, b13]
    · simp [go_sem, hop165, b13]
  obtain ⟨o166, ho166, hop166, hd166, hg166⟩ : ∃ o, R16[6]? = some o ∧ o.op = .call { callee := .builtin .len, args := #[.tmp 34], argTypes := #[47] } ∧ o.dst = some 35 ∧ o.guard = none := ⟨_, rfl, rfl, rfl, rfl⟩
  refine BGo.val hT (.int .i64 nn) ho166 hd166 hg166 (by decide) (l' := [(34, .slice oa nn oc), (33, .int .i64 most), (32, .int .i64 m), (31, .slice sa m c), (30, .slice sa m c), (29, .slice oa nn oc), (15, .slice sa m c), (13, .slice oa nn oc), (25, .agg fs), (26, .int .i64 i), (3, .int .i64 most)]) (by simp) (fun e he hc w => ?_) fun T hT => ?_
  · have b34 := he (34, .slice oa nn oc) (by simp)
    unfold execOp
    constructor
    · simp [go_sem, hop166, b34, Builtin.len_]
    · simp [go_sem, hop166, b34, Builtin.len_]
  obtain ⟨o167, ho167, hop167, hd167, hg167⟩ : ∃ o, R16[7]? = some o ∧ o.op = .binOp .sub 3 (.tmp 33) (.tmp 35) 3 ∧ o.dst = some 36 ∧ o.guard = none := ⟨_, rfl, rfl, rfl, rfl⟩
  refine BGo.val hT (.int .i64 (most - nn)) ho167 hd167 hg167 (by decide) (l' := [(35, .int .i64 nn), (34, .slice oa nn oc), (33, .int .i64 most), (32, .int .i64 m), (31, .slice sa m c), (30, .slice sa m c), (29, .slice oa nn oc), (15, .slice sa m c), (13, .slice oa nn oc), (25, .agg fs), (26, .int .i64 i), (3, .int .i64 most)]) (by simp) (fun e he hc w => ?_) fun T hT => ?_
  · have b33 := he (33, .int .i64 most) (by simp)
    have b35 := he (35, .int .i64 nn) (by simp)
    unfold execOp
    constructor
    · simp [go_sem, hop167, b33, b35, hwrap]
    · simp [go_sem, hop167, b33, b35, hwrap]
  obtain ⟨o168, ho168, hop168, hd168, hg168⟩ : ∃ o, R16[8]? = some o ∧ o.op = .call { callee := .builtin .min, args := #[.tmp 32, .tmp 36], argTypes := #[3, 3] } ∧ o.dst = some 37 ∧ o.guard = none := ⟨_, rfl, rfl, rfl, rfl⟩
  refine BGo.val hT (.int .i64 kk) ho168 hd168 hg168 (by decide) (l' := [(36, .int .i64 (most - nn)), (35, .int .i64 nn), (34, .slice oa nn oc), (33, .int .i64 most), (32, .int .i64 m), (31, .slice sa m c), (30, .slice sa m c), (29, .slice oa nn oc), (15, .slice sa m c), (13, .slice oa nn oc), (25, .agg fs), (26, .int .i64 i), (3, .int .i64 most)]) (by simp) (fun e he hc w => ?_) fun T hT => ?_
  · have b32 := he (32, .int .i64 m) (by simp)
    have b36 := he (36, .int .i64 (most - nn)) (by simp)
    unfold execOp
    constructor
    · simp [go_sem, hop168, b32, b36, Builtin.min_, Builtin.min2, hkk]
    · simp [go_sem, hop168, b32, b36, Builtin.min_, Builtin.min2, hkk]
  obtain ⟨o169, ho169, hop169, hd169, hg169⟩ : ∃ o, R16[9]? = some o ∧ o.op = .slice 47 (.tmp 30) none (some (.tmp 37)) none ∧ o.dst = some 38 ∧ o.guard = none := ⟨_, rfl, rfl, rfl, rfl⟩
  refine BGo.val hT (.slice sa kk c) ho169 hd169 hg169 (by decide) (l' := [(37, .int .i64 kk), (36, .int .i64 (most - nn)), (35, .int .i64 nn), (34, .slice oa nn oc), (33, .int .i64 most), (32, .int .i64 m), (31, .slice sa m c), (30, .slice sa m c), (29, .slice oa nn oc), (15, .slice sa m c), (13, .slice oa nn oc), (25, .agg fs), (26, .int .i64 i), (3, .int .i64 most)]) (by simp) (fun e he hc w => ?_) fun T hT => ?_
  · have b30 := he (30, .slice sa m c) (by simp)
    have b37 := he (37, .int .i64 kk) (by simp)
    unfold execOp
    constructor
    · simp [go_sem, hop169, b30, b37, Instr.sliceAt, Instr.slice, Instr.sliceBounds, Instr.sliceBound, hkc]
    · simp [go_sem, hop169, b30, b37, Instr.sliceAt, Instr.slice, Instr.sliceBounds, Instr.sliceBound, hkc]
  refine n T (hT.sub ?_)
  simp
end
end Go.Proofs.YtkpekiajdlolnabGreat.Ph

/-
  SCAN IN COMPANY, twentieth text: THE TAIL's WHOLE LOOP.
-/
namespace Go.Proofs.YtkpekiajdlolnabGreat.Ph
open Go Go.Conc Go.ConcN Go.Proofs.YtkpekiajdlolnabGreat.Sim

/-- what is taken of the first i lists: how many pairs, and their cells. -/
def tcut (most : Nat) (m : Nat → Nat) (rows : Nat → List Value) : Nat → Nat × List Value
  | 0 => (0, [])
  | i + 1 => ((tcut most m rows i).1 + min (m i) (most - (tcut most m rows i).1), (tcut most m rows i).2 ++ (rows i).take (min (m i) (most - (tcut most m rows i).1) * 2))
theorem tcut_le (most : Nat) (m : Nat → Nat) (rows : Nat → List Value) (i : Nat) : (tcut most m rows i).1 ≤ most := by
  induction i with
  | zero => exact Nat.zero_le _
  | succ i ih => simp only [tcut]; omega
theorem tcut_bound (most : Nat) (m : Nat → Nat) (rows : Nat → List Value) {B : Nat} : ∀ i, (∀ j, j < i → m j ≤ B) → (tcut most m rows i).1 ≤ i * B
  | 0, _ => Nat.zero_le _
  | i + 1, h => by
    have := tcut_bound most m rows i fun j hj => h j (by omega)
    have := h i (by omega)
    simp only [tcut]
    rw [Nat.succ_mul]
    omega

section
variable {cs : List Frame} {SB : Blocks} {Z : Frame → World → Prop} {k : List Item} {ρ0 : Rel} {w0 : World} {fs : Array Value} {lv : Nat → Value} {m : Nat → Nat} {rows : Nat → List Value} {most : Nat} {Gb : Blocks}
theorem tLoop (hfs : ∀ i, i < 4 → fs[i]? = some (lv i)) (hG : ∀ b, Gb b → b < w0.heap.size ∧ ρ0 b b) (hr : ∀ i, i < 4 → SRow Gb w0 (lv i) (m i) (rows i)) (hSB : ∀ b, SB b → b < w0.heap.size) (hm : ∀ i, i < 4 → m i ≤ 268435456) (hmost : most ≤ 9223372036854775807)
    (nx : ∀ T' ov' ρ' w', TlS ρ0 w0 SB (tcut most m rows 4).1 (tcut most m rows 4).2 ov' ρ' w' → TH T' [(13, ov')] → BGo cs (bS.at ⟨T', []⟩ (.code tE :: k)) w' SB Z) :
    ∀ r i, i + r = 4 → ∀ T ov ρ w, TlS ρ0 w0 SB (tcut most m rows i).1 (tcut most m rows i).2 ov ρ w → TH T [(13, ov), (25, .agg fs), (26, .int .i64 i), (3, .int .i64 most)] →
      BGo cs (bS.at ⟨T, []⟩ (.code tL :: .inLoop tL :: .inBlock 2 :: .code tE :: k)) w SB Z := by
  intro r
  induction r with
  | zero =>
    intro i hi T ov ρ w h hT
    obtain rfl : i = 4 := by omega
    refine BGo.sil (tTest hT.1 (hT.2 (26, .int .i64 ((4 : Nat) : Int)) (by simp)) (b := false) (decide_eq_false (by decide))) ?_
    refine BGo.sil (Sil.ctl (fun w1 => stepG_exit rfl) (.refl _ _)) ?_
    exact nx _ ov ρ w h ((hT.set (l' := [(13, ov)]) (.bool false) (by decide) (by simp)).sub (by simp))
  | succ r ih =>
    intro i hi T ov ρ w h hT
    have hi4 : i < 4 := by omega
    refine BGo.sil (tTest hT.1 (hT.2 (26, .int .i64 i) (by simp)) (b := true) (decide_eq_true (by omega))) ?_
    refine BGo.sil (Sil.ctl (fun w1 => stepG_skip) (Sil.ctl (fun w1 => stepG_seq) (Sil.ctl (fun w1 => stepG_block) (.refl _ _)))) ?_
    have hT1 : TH (T.setIfInBounds 27 (.bool true)) [(13, ov), (25, .agg fs), (26, .int .i64 i), (3, .int .i64 most)] := (hT.set (l' := [(13, ov), (25, .agg fs), (26, .int .i64 i), (3, .int .i64 most)]) (.bool true) (by decide) (by simp)).sub (by simp)
    generalize T.setIfInBounds 27 (.bool true) = T1 at hT1 ⊢
    refine tIndex hi4 (hfs i hi4) hT1 fun T2 hT2 => ?_
    have hle := tcut_le most m rows i
    have hml := hm i hi4
    have hov : ∃ oa oc, ov = .slice oa (tcut most m rows i).1 oc := by
      rcases h.own.2 with ⟨rfl, e⟩ | ⟨g, cap, cur, rfl, _⟩
      · exact ⟨none, 0, by rw [e]⟩
      · exact ⟨_, _, rfl⟩
    obtain ⟨oa, oc, hov⟩ := hov
    have hlv : ∃ sa c, lv i = .slice sa (m i) c ∧ m i ≤ c := by
      rcases (hr i hi4).2 with ⟨e, e2⟩ | ⟨g, cap, cur, e, _, _, h1, _⟩
      · exact ⟨none, 0, by rw [e, e2], by omega⟩
      · exact ⟨_, _, e, h1⟩
    obtain ⟨sa, c, hlv, hmc⟩ := hlv
    have hkk : ((min (m i) (most - (tcut most m rows i).1) : Nat) : Int) = if (most : Int) - ((tcut most m rows i).1 : Nat) < (m i : Nat) then (most : Int) - ((tcut most m rows i).1 : Nat) else (m i : Nat) := by
      split <;> omega
    refine tCut hlv hov (by omega) (by omega) hkk hmc hT2 fun T3 hT3 => ?_
    have hb := tcut_bound most m rows (B := 268435456) i fun j hj => hm j (by omega)
    have hb' : i * 268435456 ≤ 3 * 268435456 := Nat.mul_le_mul_right _ (by omega)
    refine tAppend (kk := min (m i) (most - (tcut most m rows i).1)) (l' := [(25, .agg fs), (26, .int .i64 i), (3, .int .i64 most)]) h hG hlv (hr i hi4) (Nat.min_le_left _ _) hSB (by omega) hT3 (by simp) (by simp) (by simp) fun T4 ov' ρ' w' h' hT4 => ?_
    refine BGo.sil (tNext hi4 hT4.1 (hT4.2 (26, .int .i64 i) (by simp))) ?_
    refine ih (i + 1) (by omega) _ ov' ρ' w' h' ?_
    have e1 := hT4.set (l' := [(13, ov'), (25, .agg fs), (3, .int .i64 most)]) (d := 40) (.int .i64 ((i + 1 : Nat) : Int)) (by decide) (by simp)
    exact (e1.set (l' := [(13, ov'), (25, .agg fs), (3, .int .i64 most)]) (d := 26) (.int .i64 ((i + 1 : Nat) : Int)) (by decide) (by simp)).sub (by simp)
end
end Go.Proofs.YtkpekiajdlolnabGreat.Ph

/-
  THE COMPANY's WALK, first text: what goroutine 0 comes to beside leavers, whatever the calls of Scan leave behind.
-/
namespace Go.Proofs.YtkpekiajdlolnabGreat.Ph
open Go Go.Conc Go.ConcN Go.Proofs.YtkpekiajdlolnabGreat.Sim

theorem Same.trans {a b c : World} (h : Same a b) (k : Same b c) : Same a c := ⟨k.heap.trans h.heap, k.os.trans h.os, k.output.trans h.output⟩
theorem Same.at (w : World) (d : Nat) : Same w (w.at d) := ⟨rfl, rfl, rfl⟩
theorem Same.re (w : World) (τ : Tape) : Same w (re w τ) := ⟨rfl, rfl, rfl⟩

/-- from this frame the company comes, on whatever tape, to a frame over the callers cs1 of which Z holds. -/
def CGo (N : Blocks) (kv : List Value) (cs : List Frame) (fr : Frame) (w : World) (cs1 : List Frame) (Z : Frame → World → Prop) : Prop :=
  ∀ (wc : World), Same w wc → ∀ (gs : Array Goroutine) (sl : Option (Nat × Nat)) (t : Trace) (SB : Blocks) (ρ : Rel) (q : Nat → Nat), Co XG fb blG SB ρ gs fr cs wc t q → (∀ b, N b → ¬ SB b) → (∀ v ∈ kv, VR XG.F ρ v v) →
    ∃ (gs' : Array Goroutine) (fr' : Frame) (w' : World) (sl' : Option (Nat × Nat)) (t' : Trace) (SB' : Blocks) (ρ' : Rel) (q' : Nat → Nat), Runs XG.P gs wc sl t gs' w' sl' t' ∧ Z fr' w' ∧ Co XG fb blG SB' ρ' gs' fr' cs1 w' t' q' ∧ (∀ b, N b → ¬ SB' b) ∧ ∀ v ∈ kv, VR XG.F ρ' v v

section
variable {N : Blocks} {kv : List Value} {cs cs1 cs2 : List Frame} {fr fr1 fr2 : Frame} {w w1 : World} {Z Z' : Frame → World → Prop} {b : Frame} {a : Act} {k : List Item}
theorem CGo.same (h : CGo N kv cs fr w cs1 Z) (s : Same w w1) : CGo N kv cs fr w1 cs1 Z := fun wc hs => h wc (s.trans hs)
theorem CGo.done (h : ∀ wc, Same w wc → Z fr wc) : CGo N kv cs fr w cs Z := fun wc hs gs sl t SB ρ q hc hN hK => ⟨gs, fr, wc, sl, t, SB, ρ, q, ⟨0, rfl⟩, h wc hs, hc, hN, hK⟩
theorem CGo.then (h : CGo N kv cs fr w cs1 Z) (k : ∀ fr1 w1, Z fr1 w1 → CGo N kv cs1 fr1 w1 cs2 Z') : CGo N kv cs fr w cs2 Z' := fun wc hs gs sl t SB ρ q hc hN hK => by
  obtain ⟨gs1, fr1, w1, sl1, t1, SB1, ρ1, q1, h1, h2, h3, hN1, hK1⟩ := h wc hs gs sl t SB ρ q hc hN hK
  obtain ⟨gs2, fr2, w2, sl2, t2, SB2, ρ2, q2, h4, h5, h6, h7⟩ := k fr1 w1 h2 w1 (Same.refl _) gs1 sl1 t1 SB1 ρ1 q1 h3 hN1 hK1
  exact ⟨gs2, fr2, w2, sl2, t2, SB2, ρ2, q2, h1.trans h4, h5, h6, h7⟩
theorem CGo.mono (h : CGo N kv cs fr w cs1 Z) (k : ∀ fr1 w1, Z fr1 w1 → Z' fr1 w1) : CGo N kv cs fr w cs1 Z' := fun wc hs gs sl t SB ρ q hc hN hK =>
  let ⟨gs1, fr1, w1, sl1, t1, SB1, ρ1, q1, h1, h2, h3⟩ := h wc hs gs sl t SB ρ q hc hN hK
  ⟨gs1, fr1, w1, sl1, t1, SB1, ρ1, q1, h1, k _ _ h2, h3⟩

/-- what a frame names without its rest. -/
abbrev FSt (ρ : Rel) (f : Frame) : Prop := FR XG fb true ρ (wt f []) (wt f [])
/-- .. unless it is one of which nothing is asked. -/
abbrev FSb (ρ : Rel) (f : Frame) : Prop := blG f.fn = false → FSt ρ f
theorem CGo.sil (hs : Sil XG.P fr cs fr1 cs1) (hf : ∀ ρ, FSb ρ fr → (∀ c ∈ cs, FSb ρ c) → (∀ v ∈ kv, VR XG.F ρ v v) → FSb ρ fr1 ∧ ∀ c ∈ cs1, FSb ρ c) (n : CGo N kv cs1 fr1 w cs2 Z) : CGo N kv cs fr w cs2 Z := fun wc s gs sl t SB ρ q hc hN hK => by
  obtain ⟨hf1, hf2⟩ := hf ρ hc.fr hc.cs hK
  obtain ⟨gs1, d, sl1, t1, q1, h1, h2, h3⟩ := hc.sil (sl := sl) hs hf1 hf2
  obtain ⟨gs2, fr2, w2, sl2, t2, SB2, ρ2, q2, h4, h5, h6⟩ := n (wc.at d) (s.trans (Same.at wc d)) gs1 sl1 t1 SB ρ q1 h3 hN hK
  exact ⟨gs2, fr2, w2, sl2, t2, SB2, ρ2, q2, h1.trans h4, h5, h6⟩
/-- a step of control. -/
theorem CGo.ctl {t1 : List Item} (h : ∀ w, stepG XG.P true (G fr cs) w = .go (G (wt fr t1) cs) w #[]) (n : CGo N kv cs (wt fr t1) w cs1 Z) : CGo N kv cs fr w cs1 Z :=
  CGo.sil (.step h (.refl _ _)) (fun _ h1 h2 _ => ⟨h1, h2⟩) n
theorem CGo.seq {x y : Code} (n : CGo N kv cs (b.at a (.code x :: .code y :: k)) w cs1 Z) : CGo N kv cs (b.at a (.code (.seq x y) :: k)) w cs1 Z := CGo.ctl (fun _ => stepG_seq) n
theorem CGo.skip (n : CGo N kv cs (b.at a k) w cs1 Z) : CGo N kv cs (b.at a (.code .skip :: k)) w cs1 Z := CGo.ctl (fun _ => stepG_skip) n
theorem CGo.cond {c : Operand} {x y : Code} {t : Bool} (h : a.eval c = .bool t) (n : CGo N kv cs (b.at a (.code (if t then x else y) :: k)) w cs1 Z) : CGo N kv cs (b.at a (.code (.cond c x y) :: k)) w cs1 Z := CGo.ctl (fun _ => stepG_cond h) n
theorem CGo.block {id : Nat} {c : Code} (n : CGo N kv cs (b.at a (.code c :: .inBlock id :: k)) w cs1 Z) : CGo N kv cs (b.at a (.code (.block id c) :: k)) w cs1 Z := CGo.ctl (fun _ => stepG_block) n
theorem CGo.inBlock {id : Nat} (n : CGo N kv cs (b.at a k) w cs1 Z) : CGo N kv cs (b.at a (.inBlock id :: k)) w cs1 Z := CGo.ctl (fun _ => stepG_inBlock) n
theorem CGo.loop {c : Code} (n : CGo N kv cs (b.at a (.code c :: .inLoop c :: k)) w cs1 Z) : CGo N kv cs (b.at a (.code (.loop c) :: k)) w cs1 Z := CGo.ctl (fun _ => stepG_loop) n
theorem CGo.inLoop {c : Code} (n : CGo N kv cs (b.at a (.code c :: .inLoop c :: k)) w cs1 Z) : CGo N kv cs (b.at a (.inLoop c :: k)) w cs1 Z := CGo.ctl (fun _ => stepG_inLoop) n
theorem CGo.exit {id : Nat} {k' : List Item} (h : exitTo id k = some k') (n : CGo N kv cs (b.at a k') w cs1 Z) : CGo N kv cs (b.at a (.code (.exit id) :: k)) w cs1 Z := CGo.ctl (fun _ => stepG_exit h) n
theorem CGo.region {id : Nat} {ops : Array Oper} (n : CGo N kv cs (b.at a (.inRegion ops (List.range ops.size) :: k)) w cs1 Z) : CGo N kv cs (b.at a (.code (.region id ops false) :: k)) w cs1 Z := CGo.ctl (fun _ => stepG_region) n
theorem CGo.regionEnd {ops : Array Oper} (n : CGo N kv cs (b.at a k) w cs1 Z) : CGo N kv cs (b.at a (.inRegion ops [] :: k)) w cs1 Z := CGo.ctl (fun _ => stepG_region_end) n
theorem FSt.put {ρ : Rel} {t1 t2 : List Item} {d : Option Tmp} {v : Value} (h : FSt ρ (b.at a t1)) (hv : VR XG.F ρ v v) : FSt ρ (b.at (a.put d v) t2) := by
  have ht : VsR XG.F ρ a.tmps.toList a.tmps.toList := h.tmps
  cases d with
  | none => exact ⟨rfl, h.same, ht, .nil, h.defers, rfl, h.run, h.kind, h.kind', h.round⟩
  | some d => exact ⟨rfl, h.same, ht.aset d hv, .nil, h.defers, rfl, h.run, h.kind, h.kind', h.round⟩
theorem CGo.unwanted {ops : Array Oper} {i : Nat} {td : List Nat} {o : Oper} (ho : ops[i]? = some o) (hw : Region.wanted o (yielded ops a.tmps) = false) (n : CGo N kv cs (b.at (a.put o.dst undef) (.inRegion ops td :: k)) w cs1 Z) : CGo N kv cs (b.at a (.inRegion ops (i :: td) :: k)) w cs1 Z :=
  CGo.sil (.step (fun _ => stepG_unwanted ho hw) (.refl _ _)) (fun _ h1 h2 _ => ⟨fun hb => FSt.put (h1 hb) undefR, h2⟩) n
/-- a lone piece of code. -/
theorem CGo.code {c : Code} {Q : Exit → Act → World → Prop} (hbl : blG b.fn = false) (hc : codeOk XG.P XG.P fb true c = true) (hpl : Plain k Q) (hQS : ∀ e a w wc, Same w wc → Q e a w → Q e a wc) (hp : ∀ wc, Same w wc → c.wp XG.P Q a wc)
    (n : ∀ e a' w' fr', Q e a' w' → Lands b k e a' fr' → CGo N kv cs fr' w' cs1 Z) : CGo N kv cs (b.at a (.code c :: k)) w cs1 Z := fun wc s gs sl t SB ρ q hco hN hK => by
  obtain ⟨gs1, fr1, w1, sl1, t1, q1, ρ1, h1, _, hle, ⟨e, a', h2, h3⟩, h4⟩ := hco.code (sl := sl) rfl setXG hbl hc hpl hQS fun τ _ => hp (re wc τ) (s.trans (Same.re wc τ))
  obtain ⟨gs2, fr2, w2, sl2, t2, SB2, ρ2, q2, h5, h6, h7⟩ := n e a' w1 fr1 h2 h3 w1 (Same.refl _) gs1 sl1 t1 SB ρ1 q1 h4 hN fun v hv => (hK v hv).mono hle
  exact ⟨gs2, fr2, w2, sl2, t2, SB2, ρ2, q2, h1.trans h5, h6, h7⟩
/-- a lone operation (a call of the class, too). -/
theorem CGo.op {ops : Array Oper} {i : Nat} {td : List Nat} {o : Oper} {Q : Act → World → Prop} (hbl : blG b.fn = false) (id : Nat) (ho : ops[i]? = some o) (hok : okOp XG.P XG.P fb true (bare o) = true) (hwant : Region.wanted o (yielded ops a.tmps) = true) (hQS : ∀ a w wc, Same w wc → Q a w → Q a wc)
    (hp : ∀ wc, Same w wc → (Code.region id #[bare o] false).wp XG.P (fun e a' w' => e = .normal ∧ Q a' w') a wc)
    (n : ∀ a' w', Q a' w' → CGo N kv cs (b.at a' (.inRegion ops td :: k)) w' cs1 Z) : CGo N kv cs (b.at a (.inRegion ops (i :: td) :: k)) w cs1 Z := fun wc s gs sl t SB ρ q hco hN hK => by
  obtain ⟨gs1, fr1, w1, sl1, t1, q1, ρ1, h1, _, hle, ⟨a', h2, rfl⟩, h4⟩ := hco.op (sl := sl) rfl setXG hbl ho hok hwant hQS (id := id) fun τ _ => hp (re wc τ) (s.trans (Same.re wc τ))
  obtain ⟨gs2, fr2, w2, sl2, t2, SB2, ρ2, q2, h5, h6, h7⟩ := n a' w1 h2 w1 (Same.refl _) gs1 sl1 t1 SB ρ1 q1 h4 hN fun v hv => (hK v hv).mono hle
  exact ⟨gs2, fr2, w2, sl2, t2, SB2, ρ2, q2, h1.trans h5, h6, h7⟩

/-- the frame is on its way out with v, which stands in its temporaries. -/
def Leaves (fr : Frame) (v : Value) : Prop := fr.mode = .returning ∧ fr.defers = [] ∧ fr.kind = .normal ∧ ∃ fn, XG.P.funcs[fr.fn]? = some fn ∧ ∀ w, (results fn fr.tmps).runT XG.P w #[] = (.ok v w, #[])
/-- the frame of f is on its way out with a value of which R holds. -/
def Ret (f : FuncId) (R : Value → World → Prop) (fr : Frame) (w : World) : Prop :=
  fr.fn = f ∧ ∃ v, Leaves fr v ∧ (∀ ρ, VsR XG.F ρ fr.tmps.toList fr.tmps.toList → VR XG.F ρ v v) ∧ R v w
/-- a function's contract in company: up to its return; and with the caller's frame behind it. -/
def CRet (N : Blocks) (kv : List Value) (f : FuncId) (args : Array Value) (w : World) (R : Value → World → Prop) : Prop := ∀ cs, CGo N kv cs (Frame.enter XG.P f args .normal) w cs (Ret f R)
def CCalls (N : Blocks) (kv : List Value) (f : FuncId) (args : Array Value) (w : World) (R : Value → World → Prop) : Prop := ∀ c cs, CGo N kv (c :: cs) (Frame.enter XG.P f args .normal) w cs (fun fr w' => ∃ v, fr = c.finish v ∧ R v w')
theorem CCalls.mono {f : FuncId} {args : Array Value} {R R' : Value → World → Prop} (h : CCalls N kv f args w R) (k : ∀ v w, R v w → R' v w) : CCalls N kv f args w R' :=
  fun c cs => (h c cs).mono fun _ _ ⟨v, h1, h2⟩ => ⟨v, h1, k _ _ h2⟩
theorem enter_fn (P : Program) (f : FuncId) (args : Array Value) : (Frame.enter P f args .normal).fn = f := rfl
theorem FSt.enter {ρ : Rel} {f : FuncId} {fn : Func} {args : Array Value} (hf : XG.P.funcs[f]? = some fn) (ha : VsR XG.F ρ args.toList args.toList) : FSt ρ (Frame.enter XG.P f args .normal) := by
  show FR XG fb true ρ (wt (Frame.enter XG.P f args .normal) []) (wt (Frame.enter XG.P f args .normal) [])
  unfold Frame.enter
  simp only [hf]
  refine ⟨rfl, ⟨fn, hf, hf⟩, ?_, .nil, .nil, rfl, .inl rfl, rfl, rfl, .inl ⟨rfl, rfl⟩⟩
  refine ha.aappend ?_
  rw [Array.toList_replicate]
  exact VsR.replicate undefR _
theorem FSt.finish {ρ : Rel} {f : Frame} {v : Value} (h : FSt ρ f) (hv : VR XG.F ρ v v) : FSt ρ (f.finish v) := by
  have key : ∀ (tm : Array Value) (td : List Item), VsR XG.F ρ tm.toList tm.toList → FSt ρ { f with tmps := tm, todo := td } := fun tm td ht => ⟨rfl, h.same, ht, .nil, h.defers, rfl, h.run, h.kind, h.kind', h.round⟩
  unfold Frame.finish
  split
  · refine key _ _ ?_
    split
    · exact h.tmps.aset _ hv
    · exact h.tmps
  · exact key _ _ h.tmps
  · exact key _ _ h.tmps
  · exact key _ _ h.tmps
  · exact key _ _ (.cons hv .nil)
  · exact h
theorem Frame.finish_fn (c : Frame) (v : Value) : (c.finish v).fn = c.fn := by
  unfold Frame.finish
  split <;> first | rfl | (split <;> rfl)
theorem stepG_leaves {fr c : Frame} {v : Value} {w : World} (h : Leaves fr v) : stepG XG.P true (G fr (c :: cs)) w = .go (G (c.finish v) cs) w #[] := by
  obtain ⟨hm, hd, hk, fn, hf, hr⟩ := h
  rw [stepG_ret _ _ _ _ _ hm]
  obtain ⟨fn0, tmps0, todo0, defers0, mode0, kind0, ro0⟩ := fr
  obtain rfl : defers0 = [] := hd
  obtain rfl : mode0 = .returning := hm
  obtain rfl : kind0 = .normal := hk
  have hf : XG.P.funcs[fn0]? = some fn := hf
  have hr : (results fn tmps0).runT XG.P w #[] = (.ok v w, #[]) := hr w
  unfold unwind
  dsimp only
  rw [hf]
  dsimp only
  rw [hr]
  rfl
theorem CRet.calls {f : FuncId} {args : Array Value} {R : Value → World → Prop} (hbl : blG f = false) (hS : ∀ v w wc, Same w wc → R v w → R v wc) (h : CRet N kv f args w R) : CCalls N kv f args w R := fun c cs => by
  refine (h (c :: cs)).then ?_
  rintro fr1 w1 ⟨hfn, v, hl, hv, hr⟩
  exact CGo.sil (.step (fun w => stepG_leaves hl) (.refl _ _)) (fun ρ h1 h2 _ => ⟨fun hb => FSt.finish (h2 c (.head _) (by rw [← Frame.finish_fn c v]; exact hb)) (hv ρ (h1 (by rw [hfn]; exact hbl)).tmps), fun c hc => h2 c (.tail _ hc)⟩) (CGo.done fun wc s => ⟨v, rfl, hS _ _ _ s hr⟩)
/-- a call. -/
theorem CGo.call {ops : Array Oper} {i : Nat} {td : List Nat} {o : Oper} {f : FuncId} {fn : Func} {args : Array Value} {R : Value → World → Prop} (ho : ops[i]? = some o) (hw : Region.wanted o (yielded ops a.tmps) = true) (hk : b.kind ≠ .early)
    (ev : ∀ w, (execOp a.eval o).run XG.P w = .ok (.enter f args) w ∧ (execOp a.eval o).events XG.P w #[] = #[]) (hf : XG.P.funcs[f]? = some fn)
    (hargs : ∀ ρ, FSb ρ (b.at a (.inRegion ops (i :: td) :: k)) → (∀ v ∈ kv, VR XG.F ρ v v) → blG f = false → VsR XG.F ρ args.toList args.toList)
    (hcall : CCalls N kv f args w R) (n : ∀ v w', R v w' → CGo N kv cs (b.at (a.put o.dst v) (.inRegion ops td :: k)) w' cs1 Z) : CGo N kv cs (b.at a (.inRegion ops (i :: td) :: k)) w cs1 Z := by
  have hs : ∀ w, stepG XG.P true (G (b.at a (.inRegion ops (i :: td) :: k)) cs) w = .go (G (Frame.enter XG.P f args .normal) (b.at a (.inRegion ops (i :: td) :: k) :: cs)) w #[] := fun w => by
    rw [stepG_enter ho hw hk (ev w).1]
    unfold listed
    rw [(ev w).2, seen_none]
  refine CGo.sil (.step hs (.refl _ _)) (fun ρ h1 h2 hk => ⟨fun hb => FSt.enter hf (hargs ρ h1 hk (by rw [← enter_fn XG.P f args]; exact hb)), fun c hc => ?_⟩) ((hcall _ _).then ?_)
  · rcases List.mem_cons.1 hc with rfl | hc
    · exact h1
    · exact h2 c hc
  rintro fr1 w1 ⟨v, rfl, hr⟩
  rw [Frame.finish_at, ho]
  exact n v w1 hr
/-- 'return'. -/
theorem CGo.ret (h : ∀ wc, Same w wc → Z { b.at a (.code .ret :: k) with mode := .returning } wc) : CGo N kv cs (b.at a (.code .ret :: k)) w cs Z :=
  CGo.sil (.step (fun _ => stepG_ret') (.refl _ _)) (fun _ h1 h2 _ => ⟨fun hb => let h1 := h1 hb; ⟨rfl, h1.same, h1.tmps, .nil, h1.defers, rfl, .inr rfl, h1.kind, h1.kind', h1.round⟩, h2⟩) (CGo.done h)
end
end Go.Proofs.YtkpekiajdlolnabGreat.Ph

/-
  THE COMPANY's WALK, second text: the relation of the blocks may be taken for the identity on what is reached in company.
-/
namespace Go.Proofs.YtkpekiajdlolnabGreat.Sim
open Go Go.Conc

/-- the identity on the right side's blocks. -/
def dg (ρ : Rel) : Rel := fun a b => a = b ∧ ∃ x, ρ x b
section
variable {F : FuncId → Prop} {ρ : Rel}
theorem dg_of {a b : Nat} (h : ρ a b) : dg ρ b b := ⟨rfl, a, h⟩
mutual
theorem VR.right : ∀ {v v' : Value}, VR F ρ v v' → VR F (dg ρ) v' v'
  | _, _, .bool b => .bool b
  | _, _, .int k n => .int k n
  | _, _, .string s => .string s
  | _, _, .ptrNil => .ptrNil
  | _, _, .ptr r => .ptr (dg_of r)
  | _, _, .sliceNil n c => .sliceNil n c
  | _, _, .slice r => .slice (dg_of r)
  | _, _, .mapNil => .mapNil
  | _, _, .map r => .map (dg_of r)
  | _, _, .func f r => .func f r.right
  | _, _, .yield r => .yield (dg_of r)
  | _, _, .nilFunc => .nilFunc
  | _, _, .agg r => .agg r.right
  | _, _, .tuple r => .tuple r.right
theorem VsR.right : ∀ {l l' : List Value}, VsR F ρ l l' → VsR F (dg ρ) l' l'
  | _, _, .nil => .nil
  | _, _, .cons a b => .cons a.right b.right
end
theorem ER.right {e e' : MapEntry} (h : ER F ρ e e') : ER F (dg ρ) e' e' := ⟨h.key.right, h.val.right, rfl⟩
theorem EsR.right : ∀ {l l' : List MapEntry}, EsR F ρ l l' → EsR F (dg ρ) l' l'
  | _, _, .nil => .nil
  | _, _, .cons a b => .cons a.right b.right
theorem DsR.right : ∀ {l l' : List Deferred}, DsR ρ l l' → DsR (dg ρ) l' l'
  | _, _, .nil => .nil
  | _, _, .cons a b => .cons (dg_of a) b.right
theorem OptR.right {x x' : Option Nat} (h : OptR ρ x x') : OptR (dg ρ) x' x' := by
  rcases h with ⟨_, h⟩ | ⟨l, l', _, h, r⟩
  · exact .inl ⟨h, h⟩
  · exact .inr ⟨l', l', h, h, dg_of r⟩
variable {X : Cx} {Fb : FuncId → Bool} {wr : Bool}
theorem OR.right {o o' : Obj} (h : OR X ρ o o') : OR X (dg ρ) o' o' := by
  cases h with
  | cells a b => exact .cells a.right (.inl rfl)
  | map a => exact .map a.right
  | stringIter s p => exact .stringIter s p
  | mapIterNil a b c => exact .mapIterNil a b c
  | mapIter r => exact .mapIter (dg_of r)
  | loop a b c d e g => exact .loop a.right (dg_of b) c d e g
  | number l r => exact .number l (dg_of r)
  | deferredNone => exact .deferredNone
  | deferred => exact .deferred
theorem WR.right {w w' : World} (h : WR X ρ w w') (hs : ∀ a, ¬ X.Sh a) : WR X (dg ρ) w' w' :=
  ⟨fun h1 h2 => h1.1.symm.trans h2.1, fun h1 h2 => h1.1.trans h2.1.symm, fun {a b} ⟨e, x, hx⟩ => by
    subst e
    obtain ⟨o, o', _, k2, k3⟩ := h.heap hx
    exact ⟨o', o', k2, k2, k3.right⟩, fun _ _ => rfl, fun a ha => (hs a ha).elim⟩
end
end Go.Proofs.YtkpekiajdlolnabGreat.Sim

namespace Go.Proofs.YtkpekiajdlolnabGreat.Ph
open Go Go.Conc Go.ConcN Go.Proofs.YtkpekiajdlolnabGreat.Sim
section
variable {X : Cx} {Fb : FuncId → Bool} {wr : Bool} {ρ : Rel}
theorem fr_right {f f' : Frame} (h : FR X Fb wr ρ (wt f []) (wt f' [])) : FR X Fb wr (dg ρ) (wt f' []) (wt f' []) :=
  ⟨rfl, let ⟨g, h1, h2⟩ := h.same; ⟨g, by rw [h.fn]; exact h1, by rw [h.fn]; exact h2⟩, h.tmps.right, .nil, h.defers.right, rfl, by have := h.run; rw [← h.mode] at this; exact this, h.kind', h.kind', h.round.right⟩
end
theorem rng_dg (ρ : Rel) : rng (dg ρ) = rng ρ := by
  funext b
  exact propext ⟨fun ⟨_, _, h⟩ => h, fun ⟨a, h⟩ => ⟨b, rfl, a, h⟩⟩
theorem own_XG (ρ : Rel) : own XG ρ = rng ρ := by
  funext b
  exact propext ⟨fun ⟨a, h, _⟩ => ⟨a, h⟩, fun ⟨a, h⟩ => ⟨a, h, fun h => h⟩⟩
theorem Co.diag {SB : Blocks} {ρ : Rel} {gs : Array Goroutine} {fr : Frame} {cs : List Frame} {w : World} {t : Trace} {q : Nat → Nat} (h : Co XG fb blG SB ρ gs fr cs w t q) : Co XG fb blG SB (dg ρ) gs fr cs w t q :=
  ⟨h.g0, h.leavers, h.past, by rw [own_XG, rng_dg]; have := h.foot; rwa [own_XG] at this, fun hb => fr_right (h.fr hb), fun c hc hb => fr_right (h.cs c hc hb), h.wr.right fun _ h => h, h.nb⟩
end Go.Proofs.YtkpekiajdlolnabGreat.Ph

/-
  SCAN IN COMPANY, twenty-first text: what Scan reads; the workers' scripts.
-/
namespace Go.Proofs.YtkpekiajdlolnabGreat.Ph
open Go.Conc Go.ConcN Go.RowKit Go.Conc.Lib Go.ConcR.Gen Go.ConcN.Gen Go Go.Proofs.YtkpekiajdlolnabGreat.Sim
open Go.ConcR (KK wgBlock WgAt stA smA rd wr mk Payload Aside2 DC0 ofEvent_cell)

/-- the cluster's four maps, as Scan reads them. -/
structure CluAt (cl : Nat) (db mb : Nat → Nat) (es : Nat → Array MapEntry) (ck : Nat → Nat) (w : World) : Prop where
  d : ∀ i, i < 4 → w.cell? ⟨cl, 1 + i * 3 + 1, none⟩ = some (.pointer (some ⟨db i, 0, none⟩))
  b : ∀ i, i < 4 → w.heap[db i]? = some (.cells #[.map (some (mb i))] 142 (0, 0))
  m : ∀ i, i < 4 → w.heap[mb i]? = some (.map (es i) (ck i))
section
variable {cl : Nat} {db mb : Nat → Nat} {es : Nat → Array MapEntry} {ck : Nat → Nat} {w w1 : World}
theorem CluAt.to (h : CluAt cl db mb es ck w) (kc : w1.heap[cl]? = w.heap[cl]?) (kd : ∀ i, i < 4 → w1.heap[db i]? = w.heap[db i]?) (km : ∀ i, i < 4 → w1.heap[mb i]? = w.heap[mb i]?) : CluAt cl db mb es ck w1 :=
  ⟨fun i hi => (cell?_heap (a := ⟨cl, 1 + i * 3 + 1, none⟩) kc).trans (h.d i hi), fun i hi => (kd i hi).trans (h.b i hi), fun i hi => (km i hi).trans (h.m i hi)⟩
theorem CluAt.ltc (h : CluAt cl db mb es ck w) : cl < w.heap.size := by
  have := h.d 0 (by decide)
  unfold World.cell? at this
  cases e : w.heap[cl]? with
  | none => simp [e] at this
  | some o => exact (Array.getElem?_eq_some_iff.1 e).1
theorem CluAt.ltd (h : CluAt cl db mb es ck w) (i : Nat) (hi : i < 4) : db i < w.heap.size := (Array.getElem?_eq_some_iff.1 (h.b i hi)).1
theorem CluAt.ltm (h : CluAt cl db mb es ck w) (i : Nat) (hi : i < 4) : mb i < w.heap.size := (Array.getElem?_eq_some_iff.1 (h.m i hi)).1
/-- what does not touch what was there leaves the cluster. -/
theorem CluAt.old (h : CluAt cl db mb es ck w) (k : ∀ b, b < w.heap.size → w1.heap[b]? = w.heap[b]?) : CluAt cl db mb es ck w1 :=
  h.to (k _ h.ltc) (fun i hi => k _ (h.ltd i hi)) (fun i hi => k _ (h.ltm i hi))
end

section
variable {cl : Nat} {db mb : Nat → Nat} {es : Nat → Array MapEntry} {ck : Nat → Nat} {s t : ByteArray} {m : Nat → Nat} {rows : Nat → List Value} {cb ab tb C Wg : Nat} {F : Blocks} {w w1 : World}
structure FxS (cl : Nat) (db mb : Nat → Nat) (es : Nat → Array MapEntry) (ck : Nat → Nat) (cb ab tb : Nat) (s t : ByteArray) (F : Blocks) (w : World) : Prop where
  clu : CluAt cl db mb es ck w
  c : w.cell? ⟨cb, 0, none⟩ = some (.pointer (some ⟨cl, 0, none⟩))
  f : w.cell? ⟨ab, 0, none⟩ = some (.string s)
  t : w.cell? ⟨tb, 0, none⟩ = some (.string t)
  Fc : F cb
  Ff : F ab
  Ft : F tb
  Fl : F cl
  Fd : ∀ i, i < 4 → F (db i)
  Fm : ∀ i, i < 4 → F (mb i)
theorem FxS.ext (h : FxS cl db mb es ck cb ab tb s t F w) (e : Ext F w w1) : FxS cl db mb es ck cb ab tb s t F w1 :=
  ⟨h.clu.to (e.keep _ h.Fl) (fun i hi => e.keep _ (h.Fd i hi)) (fun i hi => e.keep _ (h.Fm i hi)), (cell?_heap (a := ⟨cb, 0, none⟩) (e.keep _ h.Fc)).trans h.c, (cell?_heap (a := ⟨ab, 0, none⟩) (e.keep _ h.Ff)).trans h.f, (cell?_heap (a := ⟨tb, 0, none⟩) (e.keep _ h.Ft)).trans h.t, h.Fc, h.Ff, h.Ft, h.Fl, h.Fd, h.Fm⟩
theorem FxS.sub {F' : Blocks} (h : FxS cl db mb es ck cb ab tb s t F w) (k : ∀ b, F b → F' b) : FxS cl db mb es ck cb ab tb s t F' w := ⟨h.clu, h.c, h.f, h.t, k _ h.Fc, k _ h.Ff, k _ h.Ft, k _ h.Fl, fun i hi => k _ (h.Fd i hi), fun i hi => k _ (h.Fm i hi)⟩

theorem strs_eq {Fp : FuncId → Prop} {ρ : Rel} : ∀ {l l' : List Value}, VsR Fp ρ l l' → (∀ x ∈ l, ∃ s, x = .string s) → l' = l
  | _, _, .nil, _ => rfl
  | _, _, .cons a b, h => by
    obtain ⟨s, rfl⟩ := h _ (.head _)
    cases a
    rw [strs_eq b fun x hx => h x (.tail _ hx)]
theorem srow_tr {Sh : Nat → Prop} {ρ : Rel} {v v' : Value} {n : Nat} {xs : List Value} {w w' : World} (h : SRow (fun _ => True) w v n xs) (hv : VR (fun f => fbP f = true) ρ v v') (hw : WN (XW Sh) ρ w w') : SRow (rng ρ) w' v' n xs := by
  refine ⟨h.1, ?_⟩
  rcases h.2 with ⟨rfl, e⟩ | ⟨g, cap, cur, rfl, _, h2, h3, h4, h5, h6⟩
  · cases hv
    exact .inl ⟨rfl, e⟩
  · cases hv with
    | @slice b b' o sp n c hr =>
      obtain ⟨τ, _, k⟩ := hw
      obtain ⟨o1, o2, k1, k2, k3⟩ := k.heap hr
      have k1 : w.heap[g]? = some o1 := k1
      rw [h2] at k1
      cases k1
      cases k3 with
      | @cells c c' e z z' hc hz =>
        have hcc : c' = cur := by
          have := strs_eq hc h6
          exact Array.ext' this
        subst hcc
        have hz' : z' = (0, 0) := hz.elim id id
        subst hz'
        exact .inr ⟨b', cap, c', rfl, ⟨_, hr⟩, k2, h3, h4, h5, h6⟩

theorem scanScript (hCW : C ≠ Wg) (hes : ∀ i, i < 4 → ∀ (F : FuncId → Prop) ρ, EsR F ρ (es i).toList (es i).toList)
    (hcon : ∀ i, i < 4 → ∀ wl, wl.heap[db i]? = some (.cells #[.map (some (mb i))] 142 (0, 1)) → wl.heap[mb i]? = some (.map (es i) (ck i)) → Calls Tryz.prog 56 #[.pointer (some ⟨db i, 0, none⟩), .string s, .string t] wl fun | .returned v, w' => SRow (fun _ => True) w' v (m i) (rows i) | _, _ => False)
    (i : Nat) (hi : i < 4) (F : Blocks) (w : World) (kb : Nat) (hx : FxS cl db mb es ck cb ab tb s t F w) (hF : FOk F (fun _ => False) w) (hk : F kb) (hc : w.cell? ⟨kb, 0, none⟩ = some (.int .i64 i)) :
    Script Tryz.prog link.tWg Wg C 4 (fun i F v w => SRow F w v (m i) (rows i)) i F (born Tryz.prog (callW Wg cb kb ab tb C)) w := by
  refine wScript (Res := fun i F v w => SRow F w v (m i) (rows i)) (cl := cl) (dp := .pointer (some ⟨db i, 0, none⟩)) (s := .string s) (t := .string t) hi hCW (fun F v w w1 h e => h.ext e.keep) (fun F v w h => ?_) ⟨hc, hx.c, hx.f, hx.t, hx.clu.d i hi, hk, hx.Fc, hx.Ff, hx.Ft, hx.Fl⟩ hF fun c cs w1 e => ?_
  · rcases h.2 with ⟨rfl, _⟩ | ⟨g, cap, cur, rfl, _⟩
    · exact ⟨none, 0, 0, rfl⟩
    · exact ⟨_, _, _, rfl⟩
  · have hx1 := hx.ext e
    have hne : db i ≠ mb i := fun e => by
      have h1 := hx1.clu.b i hi
      rw [e, hx1.clu.m i hi] at h1
      cases h1
    exact pairs_wg (R := fun v w => SRow (fun _ => True) w v (m i) (rows i)) (Res := fun F v w => SRow F w v (m i) (rows i)) (hF.ext e) (hx.Fd i hi) (hx.Fm i hi) hne (hx1.clu.b i hi) (hx1.clu.m i hi) (hes i hi) (hcon i hi) (fun v w τ h => h.ext fun _ _ => rfl) (fun ρ v v' w w' h1 h2 h3 => srow_tr h1 h2 h3)
      (fun F F' v w h k => ⟨h.1, h.2.imp id fun ⟨g, cap, cur, h1, h2, h3⟩ => ⟨g, cap, cur, h1, k g h2, h3⟩⟩) c cs
end
end Go.Proofs.YtkpekiajdlolnabGreat.Ph

/-
  SCAN IN COMPANY, twenty-second text: up to the group's making; the tail from behind Wait.
-/
namespace Go.Proofs.YtkpekiajdlolnabGreat.Ph
open Go.Conc Go.ConcN Go.RowKit Go.Conc.Lib Go.ConcR.Gen Go.ConcN.Gen Go Go.Proofs.YtkpekiajdlolnabGreat.Sim
open Go.ConcR (KK wgBlock WgAt stA smA rd wr mk Payload Aside2 DC0 ofEvent_cell)

noncomputable def P0 : Code := match sBody with | .seq a _ => a | _ => .skip
noncomputable def P1 : Code := match sBody with | .seq _ (.seq a _) => a | _ => .skip
noncomputable def P3 : Code := match sBody with | .seq _ (.seq _ (.seq a _)) => a | _ => .skip
theorem sBody_eq : sBody = .seq P0 (.seq P1 (.seq P3 (.seq (.region 4 R4 false) sAfter))) := rfl
noncomputable def R5 : Array Oper := match sAfter with | .seq (.seq a _) _ => rg a | _ => #[]
theorem sAfter_eq : sAfter = .seq (.seq (.region 5 R5 false) (.block 0 (.loop sL))) sR := rfl
set_option maxRecDepth 100000 in
theorem okP0 : codeOk XG.P XG.P fb true P0 = true := by kernel_rfl
set_option maxRecDepth 100000 in
theorem okP1 : codeOk XG.P XG.P fb true P1 = true := by kernel_rfl
set_option maxRecDepth 100000 in
theorem okP3 : codeOk XG.P XG.P fb true P3 = true := by kernel_rfl

/-- the temporaries behind regions 0; 0 and 1; 0, 1 and 3. -/
def S0 (cl : Nat) (s t : ByteArray) (most : Int) (n : Nat) (x10 x16 x17 : Value) : Array Value :=
  #[.pointer (some ⟨cl, 0, none⟩), .string s, .string t, .int .i64 most, .pointer (some ⟨n, 0, none⟩), .pointer (some ⟨n + 1, 0, none⟩), .pointer (some ⟨n + 1 + 1, 0, none⟩), undef, .slice none 0 0, .int .i64 0, x10, undef, undef, undef, undef, undef, x16, x17, undef, undef, undef, undef, undef, undef, undef, undef, undef, undef, undef, undef, undef, undef, undef, undef, undef, undef, undef, undef, undef, undef, undef, undef]
/-- the heap is h; else the world is w. -/
structure HE (h : Array Obj) (w w' : World) : Prop where
  heap : w'.heap = h
  os : w'.os = w.os
  output : w'.output = w.output
theorem HE.same {h : Array Obj} {w w1 w2 : World} (k : HE h w w1) (s : Same w1 w2) : HE h w w2 := ⟨s.heap.trans k.heap, s.os.trans k.os, s.output.trans k.output⟩
def H0 (cl : Nat) (s t : ByteArray) (w : World) : Array Obj := ((w.heap.push (.cells #[.pointer (some ⟨cl, 0, none⟩)] 40)).push (.cells #[.string s] 9)).push (.cells #[.string t] 9)
def H1 (cl : Nat) (s t : ByteArray) (w : World) : Array Obj := (H0 cl s t w).push (.cells #[.slice none 0 0, .slice none 0 0, .slice none 0 0, .slice none 0 0] 112)
theorem H0_size {cl : Nat} {s t : ByteArray} {w : World} : (H0 cl s t w).size = w.heap.size + 3 := by simp [H0]
theorem H1_size {cl : Nat} {s t : ByteArray} {w : World} : (H1 cl s t w).size = w.heap.size + 4 := by simp [H1, H0_size]

section
variable {cl : Nat} {s t : ByteArray} {most : Int} {w : World} {Q : Exit → Act → World → Prop} {x10 x16 x17 : Value} {n : Nat}
theorem p0_wp (h : Q .normal ⟨S0 cl s t most w.heap.size undef undef undef, []⟩ (((w.alloc (.cells #[.pointer (some ⟨cl, 0, none⟩)] 40)).alloc (.cells #[.string s] 9)).alloc (.cells #[.string t] 9))) :
    Code.wp Tryz.prog P0 Q ⟨#[.pointer (some ⟨cl, 0, none⟩), .string s, .string t, .int .i64 most, undef, undef, undef, undef, undef, undef, undef, undef, undef, undef, undef, undef, undef, undef, undef, undef, undef, undef, undef, undef, undef, undef, undef, undef, undef, undef, undef, undef, undef, undef, undef, undef, undef, undef, undef, undef, undef, undef], []⟩ w := by
  unfold P0 sBody
  unfold S0 at h
  simp only [Tryz.f27, Option.getD]
  go_wp2
  exact h
theorem p1_wp (h0 : 0 ≤ most) (h : Q .normal ⟨S0 cl s t most n undef (.int .i64 most) (.bool false), []⟩ w) : Code.wp Tryz.prog P1 Q ⟨S0 cl s t most n undef undef undef, []⟩ w := by
  unfold P1 sBody
  unfold S0 at *
  simp only [Tryz.f27, Option.getD]
  have hd : decide (most < 0) = false := decide_eq_false (by omega)
  clear h0
  go_wp2
  exact h
theorem p3_wp (h : Q .normal ⟨S0 cl s t most n (.pointer (some ⟨w.heap.size, 0, none⟩)) (.int .i64 most) (.bool false), []⟩ (w.alloc (.cells #[.slice none 0 0, .slice none 0 0, .slice none 0 0, .slice none 0 0] 112))) :
    Code.wp Tryz.prog P3 Q ⟨S0 cl s t most n undef (.int .i64 most) (.bool false), []⟩ w := by
  unfold P3 sBody
  unfold S0 at *
  simp only [Tryz.f27, Option.getD]
  go_wp2
  exact h
end
section
variable {N : Blocks} {kv : List Value} {cl : Nat} {s t : ByteArray} {most : Int} {w : World} {cs cs1 : List Frame} {Z : Frame → World → Prop}
set_option maxRecDepth 100000 in
theorem scan_open (h0 : 0 ≤ most) (h1 : most ≤ 9223372036854775807)
    (nx : ∀ w1, HE (H1 cl s t w) w w1 → CGo N kv cs (bS.at ⟨S0 cl s t most w.heap.size (.pointer (some ⟨w.heap.size + 3, 0, none⟩)) (.int .i64 most) (.bool false), []⟩ (.inRegion R4 [0] :: [.code sAfter])) w1 cs1 Z) :
    CGo N kv cs (Frame.enter XG.P fS #[.pointer (some ⟨cl, 0, none⟩), .string s, .string t, .int .i64 most] .normal) w cs1 Z := by
  have he : Frame.enter XG.P fS #[.pointer (some ⟨cl, 0, none⟩), .string s, .string t, .int .i64 most] .normal = bS.at ⟨#[.pointer (some ⟨cl, 0, none⟩), .string s, .string t, .int .i64 most, undef, undef, undef, undef, undef, undef, undef, undef, undef, undef, undef, undef, undef, undef, undef, undef, undef, undef, undef, undef, undef, undef, undef, undef, undef, undef, undef, undef, undef, undef, undef, undef, undef, undef, undef, undef, undef, undef], []⟩ [.code sBody] := by
    show Frame.enter Tryz.prog fS _ .normal = _
    rw [enter_at _ Tryz.func27 (show Tryz.f27.body = some sBody from rfl)]
    have hn : Tryz.f27.ntmps = 42 := rfl
    rw [hn]
    simp only [List.size_toArray, List.length_cons, List.length_nil, Nat.reduceAdd, Nat.reduceSub, Array.replicate_succ, Array.replicate_zero, List.push_toArray, List.append_toArray, List.nil_append, List.cons_append]
    rfl
  rw [he, sBody_eq]
  refine CGo.seq ?_
  refine CGo.code rfl (Q := fun e a w' => e = .normal ∧ a = ⟨S0 cl s t most w.heap.size undef undef undef, []⟩ ∧ HE (H0 cl s t w) w w') okP0 (by rintro e a w ⟨rfl, _⟩; trivial) (fun e a w wc s h => ⟨h.1, h.2.1, h.2.2.same s⟩) (fun wc hs => ?_) ?_
  · refine p0_wp ⟨rfl, ?_, ?_⟩
    · rw [hs.heap]
    · refine ⟨?_, hs.os, hs.output⟩
      show ((wc.heap.push _).push _).push _ = _
      rw [hs.heap]; rfl
  rintro _ _ w1 fr ⟨rfl, rfl, hw1⟩ rfl
  refine CGo.seq ?_
  refine CGo.code rfl (Q := fun e a w' => e = .normal ∧ a = ⟨S0 cl s t most w.heap.size undef (.int .i64 most) (.bool false), []⟩ ∧ HE (H0 cl s t w) w w') okP1 (by rintro e a w ⟨rfl, _⟩; trivial) (fun e a w wc s h => ⟨h.1, h.2.1, h.2.2.same s⟩) (fun wc hs => ?_) ?_
  · exact p1_wp h0 ⟨rfl, rfl, hw1.same hs⟩
  rintro _ _ w2 fr ⟨rfl, rfl, hw2⟩ rfl
  refine CGo.seq ?_
  refine CGo.code rfl (Q := fun e a w' => e = .normal ∧ a = ⟨S0 cl s t most w.heap.size (.pointer (some ⟨w.heap.size + 3, 0, none⟩)) (.int .i64 most) (.bool false), []⟩ ∧ HE (H1 cl s t w) w w') okP3 (by rintro e a w ⟨rfl, _⟩; trivial) (fun e a w wc s h => ⟨h.1, h.2.1, h.2.2.same s⟩) (fun wc hs => ?_) ?_
  · have hz : wc.heap.size = w.heap.size + 3 := by rw [hs.heap, hw2.heap, H0_size]
    refine p3_wp ⟨rfl, ?_, ?_⟩
    · rw [hz]
    · refine ⟨?_, hs.os.trans hw2.os, hs.output.trans hw2.output⟩
      show wc.heap.push _ = _
      rw [hs.heap, hw2.heap]; rfl
  rintro _ _ w3 fr ⟨rfl, rfl, hw3⟩ rfl
  refine CGo.seq ?_
  refine CGo.region ?_
  exact nx w3 hw3
end
end Go.Proofs.YtkpekiajdlolnabGreat.Ph

/-
  SCAN IN COMPANY, twenty-third text: ████ THE WHOLE CALL ████.
-/
namespace Go.Proofs.YtkpekiajdlolnabGreat.Ph
open Go.Conc Go.ConcN Go.RowKit Go.Conc.Lib Go.ConcR.Gen Go.ConcN.Gen Go Go.Proofs.YtkpekiajdlolnabGreat.Sim
open Go.ConcR (KK wgBlock WgAt stA smA rd wr mk Payload Aside2 DC0 ofEvent_cell)

theorem vsR_self {F : FuncId → Prop} {ρ : Rel} : ∀ {l : List Value}, (∀ x ∈ l, VR F ρ x x) → VsR F ρ l l
  | [], _ => .nil
  | _ :: _, h => .cons (h _ (.head _)) (vsR_self fun x hx => h x (.tail _ hx))
theorem evF_z {SB : Blocks} {B C i : Nat} (hS : ¬ SB C) (hB : C < B) : EvZ SB B ⟨.cell ⟨C, i, none⟩, false, false⟩ :=
  evZ_of (F := fun b => b = C) (O := fun _ => False) ⟨rfl, rfl, fun h => by cases h⟩ (fun b h => by rw [h]; exact hS) (fun b h => by rw [h]; exact hB)

section
variable {SB : Blocks} {Z : Frame → World → Prop} {k : List Item} {cs : List Frame} {ρ0 : Rel} {w0 : World} {lv : Nat → Value} {m : Nat → Nat} {rows : Nat → List Value} {most : Nat} {Gb : Blocks} {C : Nat} {T : Array Value}
/-- the tail, from behind Wait up to the return. -/
theorem tAll (hT3 : T.getD 3 undef = .int .i64 most) (hT10 : T.getD 10 undef = .pointer (some ⟨C, 0, none⟩)) (hsz : T.size = 42) (hc : ∀ i, i < 4 → w0.cell? ⟨C, i, none⟩ = some (lv i)) (hC : C < w0.heap.size) (hCS : ¬ SB C)
    (hw : WR XG ρ0 w0 w0) (hnb : NB w0) (hap : ∀ b, rng ρ0 b → ¬ SB b)
    (hG : ∀ b, Gb b → b < w0.heap.size ∧ ρ0 b b) (hr : ∀ i, i < 4 → SRow Gb w0 (lv i) (m i) (rows i)) (hSB : ∀ b, SB b → b < w0.heap.size) (hm : ∀ i, i < 4 → m i ≤ 268435456) (hmost : most ≤ 9223372036854775807)
    (hZ : ∀ T' ov' ρ' w', TlS ρ0 w0 SB (tcut most m rows 4).1 (tcut most m rows 4).2 ov' ρ' w' → T'.size = 42 → T'.getD 8 undef = ov' → T'.getD 9 undef = .int .i64 0 → ∀ d, Z { bS.at ⟨T', []⟩ (.code .ret :: k) with mode := .returning } (w'.at d)) :
    BGo cs (bS.at ⟨T, []⟩ (.code sT :: k)) w0 SB Z := by
  refine BGo.sil tOpen ?_
  have hTH : TH (T.setIfInBounds 13 (.slice none 0 0)) [(13, .slice none 0 0), (10, .pointer (some ⟨C, 0, none⟩)), (3, .int .i64 most)] :=
    TH.set (l := [(10, .pointer (some ⟨C, 0, none⟩)), (3, .int .i64 most)]) ⟨hsz, fun p hp => by
      rcases List.mem_cons.1 hp with rfl | hp
      · exact hT10
      · rcases List.mem_cons.1 hp with rfl | hp
        · exact hT3
        · cases hp⟩ _ (by decide) (by simp)
  generalize T.setIfInBounds 13 (.slice none 0 0) = T1 at hTH ⊢
  obtain ⟨o, ho, hop, hd, hg⟩ : ∃ o, R13[0]? = some o ∧ o.op = .load 112 (.tmp 10) ∧ o.dst = some 25 ∧ o.guard = none := ⟨_, rfl, rfl, rfl, rfl⟩
  have hwant : Region.wanted o (yielded R13 (Act.mk T1 []).tmps) = true := by unfold Region.wanted; rw [hg]
  have b10 : (Act.mk T1 []).eval (.tmp 10) = .pointer (some ⟨C, 0, none⟩) := hTH.2 (10, .pointer (some ⟨C, 0, none⟩)) (by simp)
  have ev : ∀ d, (execOp (Act.mk T1 []).eval o).run Tryz.prog (w0.at d) = .ok (.value (.agg #[lv 0, lv 1, lv 2, lv 3])) (w0.at d) ∧ (execOp (Act.mk T1 []).eval o).events Tryz.prog (w0.at d) #[] = #[⟨.cell ⟨C, 0, none⟩, false, false⟩, ⟨.cell ⟨C, 1, none⟩, false, false⟩, ⟨.cell ⟨C, 2, none⟩, false, false⟩, ⟨.cell ⟨C, 3, none⟩, false, false⟩] := fun d => by
    have h0 : (w0.at d).cell? ⟨C, 0, none⟩ = some (lv 0) := hc 0 (by decide)
    have h1 : (w0.at d).cell? ⟨C, 1, none⟩ = some (lv 1) := hc 1 (by decide)
    have h2 : (w0.at d).cell? ⟨C, 2, none⟩ = some (lv 2) := hc 2 (by decide)
    have h3 : (w0.at d).cell? ⟨C, 3, none⟩ = some (lv 3) := hc 3 (by decide)
    generalize (Act.mk T1 []).eval = e at *
    generalize w0.at d = w at *
    unfold execOp
    constructor
    · simp [go_sem, hop, b10, h0, h1, h2, h3]
    · simp [go_sem, hop, b10, h0, h1, h2, h3]
  refine BGo.one rfl fun d => ⟨_, w0.at d, _, stepG_value ho hwant (by decide) (ev d).1, Nat.le_refl _, fun e he => ?_, ?_⟩
  · have := mem_listed he
    rw [(ev d).2] at this
    simp at this
    rcases this with rfl | rfl | rfl | rfl <;> exact evF_z hCS hC
  rw [hd]
  have hT2 : TH (T1.setIfInBounds 25 (.agg #[lv 0, lv 1, lv 2, lv 3])) [(25, .agg #[lv 0, lv 1, lv 2, lv 3]), (13, .slice none 0 0), (3, .int .i64 most)] := hTH.set _ (by decide) (by simp)
  change BGo cs (bS.at ⟨T1.setIfInBounds 25 (.agg #[lv 0, lv 1, lv 2, lv 3]), []⟩ (.inRegion R13 [1] :: _)) _ _ _
  generalize T1.setIfInBounds 25 (.agg #[lv 0, lv 1, lv 2, lv 3]) = T2 at hT2 ⊢
  obtain ⟨o1, ho1, hop1, hd1, hg1⟩ : ∃ o, R13[1]? = some o ∧ o.op = .move (.const (.int .i64 0)) ∧ o.dst = some 26 ∧ o.guard = none := ⟨_, rfl, rfl, rfl, rfl⟩
  refine BGo.val hT2 (.int .i64 ((0 : Nat) : Int)) ho1 hd1 hg1 (by decide) (l' := [(25, .agg #[lv 0, lv 1, lv 2, lv 3]), (13, .slice none 0 0), (3, .int .i64 most)]) (by simp) (fun e he hc w => ?_) fun T3 hT3 => ?_
  · have bc := hc (.int .i64 0)
    unfold execOp
    constructor
    · simp [go_sem, hop1, bc]
    · simp [go_sem, hop1, bc]
  refine BGo.sil (Sil.ctl (fun w1 => stepG_region_end) (Sil.ctl (fun w1 => stepG_block) (Sil.ctl (fun w1 => stepG_loop) (.refl _ _)))) ?_
  have hw0 : TlS ρ0 w0 SB (tcut most m rows 0).1 (tcut most m rows 0).2 (.slice none 0 0) ρ0 (w0.at d) :=
    TlS.at ⟨Rel.le_refl ρ0, hw, .sliceNil _ _, hnb, World.ownsRow_nil _ _ _ _, fun _ _ => rfl, Nat.le_refl _, hap, rfl, rfl⟩ d
  refine tLoop (fs := #[lv 0, lv 1, lv 2, lv 3]) (lv := lv) (fun i hi => ?_) hG hr hSB hm hmost (fun T' ov' ρ' w' h' hT' => ?_) 4 0 rfl T3 _ ρ0 _ hw0 (hT3.sub (by simp))
  · match i, hi with
    | 0, _ => rfl
    | 1, _ => rfl
    | 2, _ => rfl
    | 3, _ => rfl
  · refine BGo.sil (tEnd hT'.1 (hT'.2 (13, ov') (by simp))) (BGo.done fun d => ?_)
    refine hZ _ ov' ρ' w' h' (by simp [hT'.1]) ?_ ?_ d
    · rw [tset_ne (by decide)]
      exact tset_same (by simp [hT'.1])
    · exact tset_same (by simp [hT'.1])
end

theorem res_scan {w : World} {T : Array Value} : (results Tryz.f27 T).runT Tryz.prog w #[] = (.ok (.tuple #[T.getD 8 undef, T.getD 9 undef]) w, #[]) := by
  have e : Tryz.f27.results = #[.tmp 8, .tmp 9] := rfl
  simp [results, e, go_sem]
end Go.Proofs.YtkpekiajdlolnabGreat.Ph

/-
  SCAN IN COMPANY, twenty-fourth text: ████ THE CONTRACT OF SCAN ████.
-/
namespace Go.Proofs.YtkpekiajdlolnabGreat.Ph
open Go.Conc Go.ConcN Go.RowKit Go.Conc.Lib Go.ConcR.Gen Go.ConcN.Gen Go Go.Proofs.YtkpekiajdlolnabGreat.Sim
open Go.ConcR (KK wgBlock WgAt stA smA rd wr mk Payload Aside2 DC0 ofEvent_cell)

section
variable {N : Blocks} {kv : List Value} {cl : Nat} {db mb : Nat → Nat} {es : Nat → Array MapEntry} {ck : Nat → Nat} {s t : ByteArray} {m : Nat → Nat} {rows : Nat → List Value} {w : World} {most : Nat}
theorem diag_ptr {Fp : FuncId → Prop} {ρ : Rel} {T : Array Value} {j b o : Nat} (h : VsR Fp ρ T.toList T.toList) (e : T.getD j undef = .pointer (some ⟨b, o, none⟩)) : ρ b b := by
  have := VsR.agetD h j
  rw [e] at this
  cases this with
  | ptr h => exact h

set_option maxRecDepth 100000 in
set_option maxHeartbeats 1000000 in
theorem scan_calls (hclu : CluAt cl db mb es ck w) (hes : ∀ i, i < 4 → ∀ (F : FuncId → Prop) ρ, EsR F ρ (es i).toList (es i).toList)
    (hcon : ∀ i, i < 4 → ∀ wl, wl.heap[db i]? = some (.cells #[.map (some (mb i))] 142 (0, 1)) → wl.heap[mb i]? = some (.map (es i) (ck i)) → Calls Tryz.prog 56 #[.pointer (some ⟨db i, 0, none⟩), .string s, .string t] wl fun | .returned v, w' => SRow (fun _ => True) w' v (m i) (rows i) | _, _ => False)
    (hm : ∀ i, i < 4 → m i ≤ 268435456) (hmost : most ≤ 9223372036854775807) (hN : ∀ b, N b → b < w.heap.size) :
    CCalls N kv fS #[.pointer (some ⟨cl, 0, none⟩), .string s, .string t, .int .i64 most] w fun v w' =>
      ∃ ov, v = .tuple #[ov, .int .i64 0] ∧ w'.ownsRow w.heap.size 74 2 ov (tcut most m rows 4).1 (tcut most m rows 4).2 ∧ (∀ b, b < w.heap.size → w'.heap[b]? = w.heap[b]?) ∧ w.heap.size ≤ w'.heap.size ∧ w'.os = w.os ∧ w'.output = w.output := by
  intro c cs
  refine scan_open (most := (most : Int)) (by omega) (by omega) fun w3 hw3 => ?_
  intro wc hs gs sl t0 SB ρ' q hco0 hNS hK0
  have hco := hco0.diag
  have hK : ∀ v ∈ kv, VR XG.F (dg ρ') v v := fun v hv => (hK0 v hv).right
  have hdg : ∀ a b, dg ρ' a b → a = b := fun a b h => h.1
  generalize dg ρ' = ρ at hco hdg hK
  have hwc : wc.heap = H1 cl s t w := hs.heap.trans hw3.heap
  have hzc : wc.heap.size = w.heap.size + 4 := by rw [hwc, H1_size]
  have old : ∀ b, b < w.heap.size → wc.heap[b]? = w.heap[b]? := fun b hb => by
    rw [hwc]
    unfold H1 H0
    rw [Array.getElem?_push, if_neg (by simp; omega), Array.getElem?_push, if_neg (by simp; omega), Array.getElem?_push, if_neg (by simp; omega), Array.getElem?_push, if_neg (by omega)]
  have cluc : CluAt cl db mb es ck wc := hclu.old old
  have hcb : wc.heap[w.heap.size]? = some (.cells #[.pointer (some ⟨cl, 0, none⟩)] 40) := by
    rw [hwc]; unfold H1 H0
    rw [Array.getElem?_push, if_neg (by simp; omega), Array.getElem?_push, if_neg (by simp; omega), Array.getElem?_push, if_neg (by simp), Array.getElem?_push, if_pos rfl]
  have hab : wc.heap[w.heap.size + 1]? = some (.cells #[.string s] 9) := by
    rw [hwc]; unfold H1 H0
    rw [Array.getElem?_push, if_neg (by simp), Array.getElem?_push, if_neg (by simp), Array.getElem?_push, if_pos (by simp)]
  have htb : wc.heap[w.heap.size + 1 + 1]? = some (.cells #[.string t] 9) := by
    rw [hwc]; unfold H1 H0
    rw [Array.getElem?_push, if_neg (by simp), Array.getElem?_push, if_pos (by simp)]
  have hCb : wc.heap[w.heap.size + 3]? = some (.cells #[.slice none 0 0, .slice none 0 0, .slice none 0 0, .slice none 0 0] 112) := by
    rw [hwc]; unfold H1
    rw [Array.getElem?_push, if_pos (by rw [H0_size])]
  -- what is reached
  have tm : VsR XG.F ρ (S0 cl s t most w.heap.size (.pointer (some ⟨w.heap.size + 3, 0, none⟩)) (.int .i64 most) (.bool false)).toList (S0 cl s t most w.heap.size (.pointer (some ⟨w.heap.size + 3, 0, none⟩)) (.int .i64 most) (.bool false)).toList := (hco.fr rfl).tmps
  have rcl : ρ cl cl := diag_ptr (j := 0) tm rfl
  have rcb : ρ w.heap.size w.heap.size := diag_ptr (j := 4) tm rfl
  have rab : ρ (w.heap.size + 1) (w.heap.size + 1) := diag_ptr (j := 5) tm rfl
  have rtb : ρ (w.heap.size + 1 + 1) (w.heap.size + 1 + 1) := diag_ptr (j := 6) tm rfl
  have rC : ρ (w.heap.size + 3) (w.heap.size + 3) := diag_ptr (j := 10) tm rfl
  have rdb : ∀ i, i < 4 → ρ (db i) (db i) := fun i hi => by
    obtain ⟨v', h1, h2⟩ := hco.wr.cell (a := ⟨cl, 1 + i * 3 + 1, none⟩) (a' := ⟨cl, 1 + i * 3 + 1, none⟩) ⟨rcl, rfl, rfl⟩ (cluc.d i hi)
    rw [cluc.d i hi] at h1
    cases h1
    cases h2 with | ptr h => exact h
  have rmb : ∀ i, i < 4 → ρ (mb i) (mb i) := fun i hi => by
    have hcell : wc.cell? ⟨db i, 0, none⟩ = some (.map (some (mb i))) := by simp [World.cell?, cluc.b i hi]
    obtain ⟨v', h1, h2⟩ := hco.wr.cell (a := ⟨db i, 0, none⟩) (a' := ⟨db i, 0, none⟩) ⟨rdb i hi, rfl, rfl⟩ hcell
    rw [hcell] at h1
    cases h1
    cases h2 with | map h => exact h
  have lrng : ∀ b, rng ρ b → b < wc.heap.size := fun b ⟨a, h⟩ => (hco.wr.bound h).2
  -- the group
  obtain ⟨gs1, d1, sl1, t1, q1, h1, z1, g1, L1, p1, hWg, hfresh⟩ := group_made (SB := SB) (sl := sl) hco.g0 hco.leavers hco.past
  rw [hzc] at hWg hfresh
  -- to the loop's head
  let Ta : Array Value := (S0 cl s t most w.heap.size (.pointer (some ⟨w.heap.size + 3, 0, none⟩)) (.int .i64 most) (.bool false)).setIfInBounds 11 (.pointer (some ⟨w.heap.size + 4, 0, none⟩))
  have g1 : gs1[0]? = some (G (bS.at ⟨Ta, []⟩ (.inRegion R4 [] :: [.code sAfter])) (c :: cs)) := by rw [hzc] at g1; exact g1
  let w4 : World := grownG (wc.at d1)
  have old4 : ∀ b, b < wc.heap.size → w4.heap[b]? = wc.heap[b]? := fun b hb => by
    show (wc.heap.push _)[b]? = _
    rw [Array.getElem?_push, if_neg (by omega)]
  have hz4 : w4.heap.size = w.heap.size + 5 := by
    show (wc.heap.push _).size = _
    rw [Array.size_push, hzc]
  have hz4' : (grownG (wc.at d1)).heap.size = w.heap.size + 5 := hz4
  let F : Blocks := fun b => rng ρ b ∧ b ≠ w.heap.size + 3
  have hFok : FOk F (fun _ => False) w4 := ⟨fun b hb => by have := lrng b hb.1; omega, fun _ h => h.elim⟩
  have hlt := hclu.ltc
  have cell4 : ∀ {b : Nat} {v : Value} {ty : TypeId}, b < wc.heap.size → wc.heap[b]? = some (.cells #[v] ty) → w4.cell? ⟨b, 0, none⟩ = some v := fun {b v ty} hb e => by
    simp [World.cell?, old4 b hb, e]
  have hFx : FxS cl db mb es ck w.heap.size (w.heap.size + 1) (w.heap.size + 1 + 1) s t F w4 :=
    ⟨cluc.old old4, cell4 (by omega) hcb, cell4 (by omega) hab, cell4 (by omega) htb, ⟨⟨_, rcb⟩, by omega⟩, ⟨⟨_, rab⟩, by omega⟩, ⟨⟨_, rtb⟩, by omega⟩, ⟨⟨_, rcl⟩, by omega⟩, fun i hi => ⟨⟨_, rdb i hi⟩, by have := hclu.ltd i hi; omega⟩, fun i hi => ⟨⟨_, rmb i hi⟩, by have := hclu.ltm i hi; omega⟩⟩
  have hnW : ¬ F (w.heap.size + 4) := fun h => by have := lrng _ h.1; omega
  have hH : ScH (.int .i64 most) w.heap.size (w.heap.size + 1) (w.heap.size + 1 + 1) (w.heap.size + 3) (w.heap.size + 4) 0 (Ta.setIfInBounds 18 (.int .i64 ((0 : Nat) : Int))) := ⟨rfl, rfl, rfl, rfl, rfl, rfl, rfl, rfl⟩
  have hWG : WG Tryz.prog true (Scr Tryz.prog link.tWg (w.heap.size + 4) (w.heap.size + 3) 4 (fun i F v w => SRow F w v (m i) (rows i)) (KS (.int .i64 most) w.heap.size (w.heap.size + 1) (w.heap.size + 1 + 1) (w.heap.size + 3) (w.heap.size + 4) [] (c :: cs)) 4) F (fun _ => False) (G (bS.at ⟨Ta, []⟩ (.inRegion R4 [] :: [.code sAfter])) (c :: cs)) w4 := by
    refine WG.ctl rfl hFok (fun w1 => stepG_region_end) ?_
    rw [sAfter_eq]
    refine WG.ctl rfl hFok (fun w1 => stepG_seq) ?_
    refine WG.ctl rfl hFok (fun w1 => stepG_seq) ?_
    refine WG.ctl rfl hFok (fun w1 => stepG_region) ?_
    change WG _ _ _ _ _ (G (bS.at ⟨Ta, []⟩ (.inRegion R5 [0] :: _)) (c :: cs)) w4
    obtain ⟨o, ho, hop, hd, hg⟩ : ∃ o, R5[0]? = some o ∧ o.op = .move (.const (.int .i64 0)) ∧ o.dst = some 18 ∧ o.guard = none := ⟨_, rfl, rfl, rfl, rfl⟩
    have hwant : Region.wanted o (yielded R5 (Act.mk Ta []).tmps) = true := by unfold Region.wanted; rw [hg]
    refine WG.value (.int .i64 ((0 : Nat) : Int)) hFok ho hwant (by decide) (fun w1 _ => ?_) ?_
    · have bc : (Act.mk Ta []).eval (.const (.int .i64 0)) = .int .i64 0 := rfl
      generalize (Act.mk Ta []).eval = e at *
      unfold execOp
      constructor
      · simp [go_sem, hop, bc]
      · simp [go_sem, hop, bc]
    rw [hd]
    change WG _ _ _ _ _ (G (bS.at ⟨Ta.setIfInBounds 18 (.int .i64 ((0 : Nat) : Int)), []⟩ (.inRegion R5 [] :: _)) (c :: cs)) w4
    refine WG.ctl rfl hFok (fun w1 => stepG_region_end) ?_
    refine WG.ctl rfl hFok (fun w1 => stepG_block) ?_
    refine WG.ctl rfl hFok (fun w1 => stepG_loop) ?_
    exact starter (Fx := FxS cl db mb es ck w.heap.size (w.heap.size + 1) (w.heap.size + 1 + 1) s t) (fun F w w1 h e => h.ext e) (fun F F' w h k => h.sub k)
      (fun i hi F w kb hx hF hk hc => scanScript (m := m) (rows := rows) (by omega) hes hcon i hi F w kb hx hF hk hc) (fun F O w T hT hF _ _ => sWait hT hF) 4 0 rfl _ F (fun _ => False) w4 hH hFok hFx hnW (by omega)
  have hpay : PayAt (w.heap.size + 3) 4 w4 := ⟨_, (old4 _ (by omega)).trans hCb, rfl⟩
  have hfoot := hco.foot
  obtain ⟨N3, gs3, a3, w5, sl3, t3, D, FM, q3, h3, hJ⟩ := phase (P := Tryz.prog) (ty := link.tWg) (Wg := w.heap.size + 4) (C := w.heap.size + 3) (n := 4) (SB := SB) (Res := fun i F v w => SRow F w v (m i) (rows i)) (L0 := w.heap.size + 3) (sl := sl1) (fun i F v w w1 h e => h.ext e.keep) (by decide) g1 L1 p1 hfresh hWG hWg hpay
    (fun b hb => ⟨by have := lrng b hb.1; omega, by have := lrng b hb.1; omega, hb.2, hfoot.apart b hb.1⟩) (fun _ h => h.elim) (by omega) (by omega) (fun b hb => by have := hfoot.low b hb; omega) (by omega) (fun h => by have := hfoot.low _ h; omega) (fun h => hfoot.apart _ ⟨_, rC⟩ h) (by omega) (Nat.le_refl _) (fun _ h => h.elim)
  obtain ⟨N4, gs4, T, d4, sl4, t4, q4, h4, z4, g4, hT, L4, p4⟩ := after_join (sl := sl3) hJ
  -- the tail
  let w6 : World := w5.at d4
  have keep6 : ∀ b, b < w.heap.size + 3 → w6.heap[b]? = wc.heap[b]? := fun b hb => (hJ.kept.keep b hb).trans (old4 b (by omega))
  let Gb : Blocks := fun b => ∃ i n cap, i < 4 ∧ (D i).val = .slice (some ⟨b, 0, none⟩) n cap
  let ρ0 : Rel := fun a b => ρ a b ∨ (a = b ∧ Gb b)
  have hρ0 : ρ.le ρ0 := fun _ _ h => .inl h
  have hdg0 : ∀ a b, ρ0 a b → a = b := fun a b h => h.elim (hdg a b) (·.1)
  have hrow : ∀ i, i < 4 → SRow Gb w6 (D i).val (m i) (rows i) := fun i hi => by
    have h := (hJ.res i hi).1
    refine ⟨h.1, h.2.imp id ?_⟩
    rintro ⟨g, cap, cur, k1, k2, k3⟩
    exact ⟨g, cap, cur, k1, ⟨i, _, _, hi, k1⟩, k3⟩
  have hGb : ∀ b, Gb b → ∃ cur, w6.heap[b]? = some (.cells cur 74 (0, 0)) ∧ (∀ x ∈ cur.toList, ∃ s, x = .string s) ∧ b < w6.heap.size ∧ b ≠ w.heap.size + 4 ∧ ¬ SB b := by
    rintro b ⟨i, n, cap, hi, e⟩
    have h := (hJ.res i hi).1
    rcases h.2 with ⟨e2, _⟩ | ⟨g, cap2, cur, e2, k2, k3, _, _, _, k6⟩
    · rw [e] at e2; cases e2
    · rw [e] at e2
      cases e2
      have := hJ.sep.wF i hi b k2
      exact ⟨cur, k3, k6, this.1, this.2.1, this.2.2.2⟩
  have hcell : ∀ i, i < 4 → w6.cell? ⟨w.heap.size + 3, i, none⟩ = some (D i).val := fun i hi => (hJ.res i hi).2
  obtain ⟨pc, hpc, hps⟩ := hJ.pay
  have hpc : w6.heap[w.heap.size + 3]? = some (.cells pc Payload.ety) := hpc
  have hval : ∀ i, i < 4 → VR XG.F ρ0 (D i).val (D i).val := fun i hi => by
    rcases (hrow i hi).2 with ⟨e, _⟩ | ⟨g, cap, cur, e, k1, _⟩
    · rw [e]; exact .sliceNil _ _
    · rw [e]; exact .slice (.inr ⟨rfl, k1⟩)
  have hwr : WR XG ρ0 w6 w6 := by
    refine ⟨fun h1 h2 => (hdg0 _ _ h1).symm.trans (hdg0 _ _ h2), fun h1 h2 => (hdg0 _ _ h1).trans (hdg0 _ _ h2).symm, fun {a b} hab => ?_, fun _ _ => rfl, fun a h => h.elim⟩
    obtain rfl := hdg0 a b hab
    rcases hab with hab | ⟨_, hb⟩
    · by_cases e : a = w.heap.size + 3
      · subst e
        refine ⟨_, _, hpc, hpc, .cells (vsR_self fun x hx => ?_) (.inl rfl)⟩
        obtain ⟨j, hj, e⟩ := List.mem_iff_getElem.1 hx
        have hj4 : j < 4 := by simpa [hps] using hj
        have := hcell j hj4
        simp only [World.cell?, hpc] at this
        have hx2 : pc[j]? = some x := by rw [← e]; simp
        rw [hx2] at this
        cases this
        exact hval j hj4
      · obtain ⟨o, o', k1, k2, k3⟩ := hco.wr.heap hab
        have hlt2 : a < w.heap.size + 3 := by have := lrng a ⟨_, hab⟩; omega
        exact ⟨o, o', (keep6 a hlt2).trans k1, (keep6 a hlt2).trans k2, k3.mono hρ0⟩
    · obtain ⟨cur, k1, k2, _⟩ := hGb a hb
      refine ⟨_, _, k1, k1, .cells (vsR_self fun x hx => ?_) (.inl rfl)⟩
      obtain ⟨s, rfl⟩ := k2 x hx
      exact .string s
  have hz6 : w.heap.size + 5 ≤ w6.heap.size := by
    have := hJ.sep.lW
    show _ ≤ w5.heap.size
    omega
  have hnb4 : NB w4 := NB.push (w := wc.at d1) (fun _ _ e => by cases e) hco.nb
  have hap : ∀ b, rng ρ0 b → ¬ (SB b ∨ b = w.heap.size + 4) := by
    rintro b ⟨a, hab | ⟨_, hb⟩⟩ hs
    · rcases hs with hs | hs
      · exact hfoot.apart b ⟨a, hab⟩ hs
      · have := lrng b ⟨a, hab⟩; omega
    · obtain ⟨_, _, _, _, k1, k2⟩ := hGb b hb
      rcases hs with hs | hs
      · exact k2 hs
      · exact k1 hs
  have hSB : ∀ b, (SB b ∨ b = w.heap.size + 4) → b < w6.heap.size := by
    rintro b (hb | hb)
    · have := hfoot.low b hb; omega
    · omega
  have hbgo := tAll (SB := fun b => SB b ∨ b = w.heap.size + 4) (k := []) (cs := c :: cs) (ρ0 := ρ0) (w0 := w6) (lv := fun i => (D i).val) (m := m) (rows := rows) (most := most) (Gb := Gb) (C := w.heap.size + 3) (T := T.setIfInBounds 24 (.tuple #[]))
    (Z := fun fr w7 => ∃ ov ρ7, TlS ρ0 w6 (fun b => SB b ∨ b = w.heap.size + 4) (tcut most m rows 4).1 (tcut most m rows 4).2 ov ρ7 w7 ∧ Leaves fr (.tuple #[ov, .int .i64 0]))
    ((tset_ne (by decide)).trans hT.t3) ((tset_ne (by decide)).trans hT.t10) (by simp [hT.size]) hcell (by omega) (fun h => hap _ ⟨_, .inl rC⟩ h) hwr (hJ.kept.nb hnb4) hap (fun b hb => ⟨(let ⟨_, _, _, k, _⟩ := hGb b hb; k), .inr ⟨rfl, hb⟩⟩) hrow hSB hm hmost
    (fun T' ov' ρ7 w7 h7 hs7 h8 h9 d => ⟨ov', ρ7, h7.at d, ⟨rfl, rfl, rfl, _, Tryz.func27, fun w => by
      have := res_scan (w := w) (T := T')
      rw [h8, h9] at this
      exact this⟩⟩)
  obtain ⟨gs7, fr7, w7, sl7, t7, q7, h7, z7, ⟨ov, ρ7, hTl, hlv⟩, g7, L7, p7⟩ := hbgo d4 gs4 sl4 t4 q4 g4 L4 p4
  have hret : Sil Tryz.prog fr7 (c :: cs) (c.finish (.tuple #[ov, .int .i64 0])) cs := .step (fun w => stepG_leaves hlv) (.refl _ _)
  obtain ⟨gs8, d8, sl8, t8, q8, h8, z8, g8, L8, p8⟩ := hret.runs (sl := sl7) g7 L7 p7
  have hle : ρ.le ρ7 := Rel.le_trans hρ0 hTl.le
  have hTl8 := hTl.at d8
  refine ⟨gs8, _, w7.at d8, sl8, t8, _, ρ7, q8, ?_, ⟨_, rfl, ov, rfl, ?_, fun b hb => ?_, ?_⟩, ⟨g8, L8, p8, ⟨hTl.apart, fun b hb => Nat.lt_of_lt_of_le (hSB b hb) hTl.size, fun b ⟨a, h, _⟩ => ⟨a, h⟩, fun b ⟨a, h⟩ => (hTl8.wr.bound h).2⟩, ?_, fun c' hc' hb => (hco.cs c' (.tail _ hc') hb).mono hle, hTl8.wr, hTl.nb⟩, fun b hb hs => hs.elim (hNS b hb) fun e => by have := hN b hb; omega, fun v hv => (hK v hv).mono hle⟩
  · exact (h1.trans ⟨N3, h3⟩).trans ((show Runs Tryz.prog gs3 w5 sl3 t3 gs4 (w5.at d4) sl4 t4 from ⟨N4, h4⟩).trans (h7.trans h8))
  · have := hTl.own
    refine ⟨this.1, this.2.imp id ?_⟩
    rintro ⟨g, cap, cur, k1, k2, k3⟩
    exact ⟨g, cap, cur, k1, by omega, k3⟩
  · exact (hTl.keep b (by omega)).trans ((keep6 b (by omega)).trans (old b hb))
  · refine ⟨?_, (hTl.os.trans hJ.kept.os).trans (hs.os.trans hw3.os), (hTl.output.trans hJ.kept.output).trans (hs.output.trans hw3.output)⟩
    have := hTl.size
    show _ ≤ w7.heap.size
    omega
  · intro hb
    exact FSt.finish ((hco.cs c (.head _) (by rw [← Frame.finish_fn c]; exact hb)).mono hle) (.tuple (.cons hTl.vr (.cons (.int _ _) .nil)))
end
end Go.Proofs.YtkpekiajdlolnabGreat.Ph

/-
  THE COMPANY's WALK, third text: FROM THE WALK TO A GOOD RUN.
-/
namespace Go.Proofs.YtkpekiajdlolnabGreat.Ph
open Go Go.Conc Go.ConcN Go.Proofs.YtkpekiajdlolnabGreat.Sim

theorem stepG_done {fr : Frame} {v : Value} {w : World} (h : Leaves fr v) (hi : XG.P.inits.idxOf? fr.fn = none) : stepG XG.P true (G fr []) w = .ended (.done v) w #[] := by
  obtain ⟨hm, hd, hk, fn, hf, hr⟩ := h
  rw [stepG_ret _ _ _ _ _ hm]
  obtain ⟨fn0, tmps0, todo0, defers0, mode0, kind0, ro0⟩ := fr
  obtain rfl : defers0 = [] := hd
  obtain rfl : mode0 = .returning := hm
  obtain rfl : kind0 = .normal := hk
  have hf : XG.P.funcs[fn0]? = some fn := hf
  have hi : XG.P.inits.idxOf? fn0 = none := hi
  have hr : (results fn tmps0).runT XG.P w #[] = (.ok v w, #[]) := hr w
  unfold unwind
  dsimp only
  rw [hf]
  dsimp only
  rw [hr]
  simp [doReturn, hi, GStep.after, seen]
theorem pastW_nil (W : World) : PastW (fun _ => False) W 1 #[] :=
  ⟨⟨0, fun said => by rintro ⟨i, j, _, ⟨a, b, ha, _⟩, _⟩; simp [Trace.act?] at ha, fun i a ha => by simp [touchAt, Trace.act?] at ha, fun i g hg => by simp [Trace.g?] at hg, rfl, by simp⟩, by simp, fun i a ha => by simp [touchAt, Trace.act?] at ha,
   fun i op x hi => by simp at hi, by simp⟩
theorem good_of {fr : Frame} {W : World} {ρ : Rel} {Post : Value → World → Prop} {f : FuncId} {R : Value → World → Prop} {N : Blocks} {kv : List Value} (h : CGo N kv [] fr W [] (Ret f R)) (hfr : FSb ρ fr) (hwr : WR XG ρ W W) (hkv : ∀ v ∈ kv, VR XG.F ρ v v) (hi : XG.P.inits.idxOf? f = none) (hp : ∀ v w wc, Same w wc → R v w → Post v wc) :
    ∃ M last o w' t', runNT XG.P (M + 1) (solo (G fr []) W) #[] = (.ended o w', t') ∧ runN XG.P M (solo (G fr []) W) = .next last ∧ step XG.P last = .ended o w' ∧ Conc.Good XG.P Post last o w' t' := by
  have hco : Co XG fb blG (fun _ => False) ρ #[G fr []] fr [] W #[] (fun _ => 0) :=
    ⟨rfl, leavers_one _ _, pastW_nil W, ⟨fun _ _ h => h, fun _ h => h.elim, fun b ⟨a, h, _⟩ => ⟨a, h⟩, fun b ⟨a, h⟩ => (hwr.bound h).2⟩, hfr, (fun c hc => by cases hc), hwr, trivial⟩
  obtain ⟨gs', fr', w', sl', t', SB', ρ', q', ⟨N, hr⟩, ⟨hfn, v, hl, hv, hR⟩, hc, _, _⟩ := h W (Same.refl _) _ none _ _ _ _ hco (fun _ _ h => h) hkv
  obtain ⟨B, hP⟩ := hc.past.past
  obtain ⟨N2, last, o, w2, t2, k1, k2, k3, k4⟩ := beside_ends (P := XG.P) (D := fun _ _ _ => False) (Post := Post) (n := 0) (w := w') (sl := sl') (fun _ _ _ h => h.elim) hc.g0 hc.leavers hP (fun w1 hw1 => by
    obtain ⟨d, e⟩ := hw1
    subst e
    exact ⟨rfl, v, #[], stepG_done hl (by rw [hfn]; exact hi), by simp, hp v _ _ (Same.at w' d) hR⟩)
  have hrun : runNT XG.P (N + (N2 + 1)) (solo (G fr []) W) #[] = (.ended o w2, t2) := runNT_trans N hr k1
  have e1 : runN XG.P N (solo (G fr []) W) = .next (crowd gs' w' sl') := by
    rw [← runNT_fst _ _ _ #[]]
    exact congrArg Prod.fst hr
  refine ⟨N + N2, last, o, w2, t2, hrun, ?_, k3, k4⟩
  have : runNT XG.P (N + N2) (solo (G fr []) W) #[] = runNT XG.P N2 (crowd gs' w' sl') t' := runNT_trans N hr rfl
  rw [← runNT_fst _ _ _ #[], this, runNT_fst]
  exact k2
end Go.Proofs.YtkpekiajdlolnabGreat.Ph
