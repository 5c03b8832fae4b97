/-
 PROVED IN PARTS: text 4 of 8 of the carrying ground of the claim (see each part's own remark). Conditions: those that each theorem names.
-/
import Derived.Test.YtkpekiajdlolnabGreatM03
import Derived.WalkKit
import Derived.Conc.LeavingOf
import Derived.Test.YtkpekiajdlolnabGreatChecked
import Derived.LoopTactic
import Derived.Lib.Hide
import Derived.Outline
import Derived.Maps.Own
import Derived.StringKeys
import Derived.Maps.OwnOps
import Derived.Maps.OwnSet
import Derived.BigQuiet
import Derived.Deep.QuietTactic
import Derived.StillTailTactics
import Derived.Laws.AppendOwn
import Derived.OwnWalk
import Derived.Laws.Cover1
import Derived.Deep.RegionHeld3
set_option linter.unusedVariables false
set_option linter.unusedSimpArgs false
set_option maxRecDepth 100000
set_option maxHeartbeats 4000000
namespace Go.Proofs.YtkpekiajdlolnabGreat.Ph
section
open Go.Conc Go.ConcN Go.RowKit Go.Conc.Lib Go.ConcR.Gen Go.ConcN.Gen Go Sim
open Go.ConcR (KK wgBlock WgAt stA smA rd wr mk Payload Aside2 DC0 ofEvent_cell)
section
variable {mo : Value} {cb fb tb C Wg : Nat} {k : List Item} {cs : List Frame} {jb : Nat → Blocks → Value → World → Prop} {K : Goroutine → World → Prop}
theorem jbl {Stop : Blocks → Blocks → Goroutine → World → Prop} {F O : Blocks} {w : World} {i kb : Nat} {T : Array Value} (hi : i < 4) (hT : ScH mo cb fb tb C Wg i T) (hF : FOk F O w)
  (n : ∀ T', ScH mo cb fb tb C Wg (i + 1) T' → WG Tryz.prog true Stop F O (G (bS.at ⟨T', []⟩ (.code sL :: .inLoop sL :: k)) cs) w) :
  WG Tryz.prog true Stop F O (G (bS.at ⟨T9 Wg cb kb fb tb C (T7 i kb T), []⟩ (.inRegion R9 [] :: .inBlock 1 :: .code (.region 10 R10 false) :: .inLoop sL :: k)) cs) w := by
 refine WG.ctl rfl hF (fun w1 => stepG_region_end) ?_
 refine WG.ctl rfl hF (fun w1 => stepG_inBlock) ?_
 refine WG.ctl rfl hF (fun w1 => stepG_region) ?_
 have hsz : (T9 Wg cb kb fb tb C (T7 i kb T)).size = 42 := by simp [T9, T7, hT.size]
 have g : ∀ j, j ≠ 12 → j ≠ 19 → j ≠ 20 → j ≠ 21 → j ≠ 22 → (T9 Wg cb kb fb tb C (T7 i kb T)).getD j undef = T.getD j undef := fun j a b c d e => by
  unfold T9 T7
  rw [qx (Ne.symm e), qx (Ne.symm d), qx (Ne.symm a), qx (Ne.symm c), qx (Ne.symm b)]
 have g4 := (g 4 (by decide) (by decide) (by decide) (by decide) (by decide)).trans hT.t4
 have g5 := (g 5 (by decide) (by decide) (by decide) (by decide) (by decide)).trans hT.t5
 have g6 := (g 6 (by decide) (by decide) (by decide) (by decide) (by decide)).trans hT.t6
 have g10 := (g 10 (by decide) (by decide) (by decide) (by decide) (by decide)).trans hT.t10
 have g11 := (g 11 (by decide) (by decide) (by decide) (by decide) (by decide)).trans hT.t11
 have g3 := (g 3 (by decide) (by decide) (by decide) (by decide) (by decide)).trans hT.t3
 have g18 := (g 18 (by decide) (by decide) (by decide) (by decide) (by decide)).trans hT.t18
 generalize T9 Wg cb kb fb tb C (T7 i kb T) = U at *
 change WG _ _ _ _ _ (G (bS.at ⟨U, []⟩ (.inRegion R10 [0, 1] :: _)) cs) w
 obtain ⟨o, ho, hop, hd, hg⟩ : ∃ o, R10[0]? = some o ∧ o.op = .binOp .add 3 (.tmp 18) (.const (.int .i64 1)) 3 ∧ o.dst = some 23 ∧ o.guard = none := ⟨_, rfl, rfl, rfl, rfl⟩
 have hwant : Region.wanted o (yielded R10 (Act.mk U []).tmps) = true := by unfold Region.wanted; rw [hg]
 refine WG.value (.int .i64 ((i + 1 : Nat) : Int)) hF ho hwant (by decide) (fun w1 _ => ?_) ?_
 ·have b18 : (Act.mk U []).eval (.tmp 18) = .int .i64 i := g18
  have bc : (Act.mk U []).eval (.const (.int .i64 1)) = .int .i64 1 := rfl
  have hwrap : IntKind.i64.wrap ((i : Int) + 1) = ((i + 1 : Nat) : Int) := by rw [IntKind.wrap_i64]; omega
  generalize (Act.mk U []).eval = e at *
  unfold execOp
  constructor
  ·simp [go_sem, hop, b18, bc, hwrap]
  ·simp [go_sem, hop, b18, bc]
 rw [hd]
 change WG _ _ _ _ _ (G (bS.at ⟨U.setIfInBounds 23 (.int .i64 ((i + 1 : Nat) : Int)), []⟩ (.inRegion R10 [1] :: _)) cs) w
 obtain ⟨o1, ho1, hop1, hd1, hg1⟩ : ∃ o, R10[1]? = some o ∧ o.op = .move (.tmp 23) ∧ o.dst = some 18 ∧ o.guard = none := ⟨_, rfl, rfl, rfl, rfl⟩
 have qgk : Region.wanted o1 (yielded R10 (Act.mk (U.setIfInBounds 23 (.int .i64 ((i + 1 : Nat) : Int))) []).tmps) = true := by unfold Region.wanted; rw [hg1]
 refine WG.value (.int .i64 ((i + 1 : Nat) : Int)) hF ho1 qgk (by decide) (fun w1 _ => ?_) ?_
 ·have b23 : (Act.mk (U.setIfInBounds 23 (.int .i64 ((i + 1 : Nat) : Int))) []).eval (.tmp 23) = .int .i64 ((i + 1 : Nat) : Int) := zh (by rw [hsz]; omega)
  generalize (Act.mk (U.setIfInBounds 23 (.int .i64 ((i + 1 : Nat) : Int))) []).eval = e at *
  unfold execOp
  constructor
  ·simp [go_sem, hop1, b23]
  ·simp [go_sem, hop1, b23]
 rw [hd1]
 change WG _ _ _ _ _ (G (bS.at ⟨(U.setIfInBounds 23 (.int .i64 ((i + 1 : Nat) : Int))).setIfInBounds 18 (.int .i64 ((i + 1 : Nat) : Int)), []⟩ (.inRegion R10 [] :: _)) cs) w
 refine WG.ctl rfl hF (fun w1 => stepG_region_end) ?_
 refine WG.ctl rfl hF (fun w1 => stepG_inLoop) ?_
 refine n _ ⟨by simp [hsz], ?_, ?_, ?_, ?_, ?_, ?_, ?_⟩
 ·rw [qx (by decide), qx (by decide)]; exact g4
 ·rw [qx (by decide), qx (by decide)]; exact g5
 ·rw [qx (by decide), qx (by decide)]; exact g6
 ·rw [qx (by decide), qx (by decide)]; exact g10
 ·rw [qx (by decide), qx (by decide)]; exact g11
 ·exact zh (by simp [hsz])
 ·rw [qx (by decide), qx (by decide)]; exact g3
theorem qkt {i kb : Nat} {T : Array Value} {j : Nat} (a : j ≠ 12) (b : j ≠ 19) (c : j ≠ 20) : (T7 i kb T).getD j undef = T.getD j undef := by
 unfold T7
 rw [qx (Ne.symm a), qx (Ne.symm c), qx (Ne.symm b)]
theorem ScH.t7 {i kb : Nat} {T : Array Value} (hT : ScH mo cb fb tb C Wg i T) : ScT kb cb fb tb C Wg (T7 i kb T) :=
 ⟨by simp [T7, hT.size], (qkt (by decide) (by decide) (by decide)).trans hT.t4, (qkt (by decide) (by decide) (by decide)).trans hT.t5, (qkt (by decide) (by decide) (by decide)).trans hT.t6, (qkt (by decide) (by decide) (by decide)).trans hT.t10,
  (qkt (by decide) (by decide) (by decide)).trans hT.t11, by unfold T7; exact zh (by simp [hT.size])⟩
theorem starter {Fx : Blocks → World → Prop} (hx : ∀ F w w1, Fx F w → Ext F w w1 → Fx F w1) (hxm : ∀ F F' w, Fx F w → (∀ b, F b → F' b) → Fx F' w)
  (hs : ∀ i : Nat, i < 4 → ∀ F w kb, Fx F w → FOk F (fun _ => False) w → F kb → w.cell? ⟨kb, 0, none⟩ = some (.int .i64 i) → Script Tryz.prog link.tWg Wg C 4 jb i F (born Tryz.prog (qg0 Wg cb kb fb tb C)) w)
  (h0 : ∀ F O w T, ScH mo cb fb tb C Wg 4 T → FOk F O w → Fx F w → ¬ F Wg → WG Tryz.prog true (Scr Tryz.prog link.tWg Wg C 4 jb K 0) F O (G (bS.at ⟨T, []⟩ (.code sL :: .inLoop sL :: k)) cs) w) :
  ∀ r i, i + r = 4 → ∀ T F O w, ScH mo cb fb tb C Wg i T → FOk F O w → Fx F w → ¬ F Wg → Wg < w.heap.size → WG Tryz.prog true (Scr Tryz.prog link.tWg Wg C 4 jb K r) F O (G (bS.at ⟨T, []⟩ (.code sL :: .inLoop sL :: k)) cs) w := by
 intro r
 induction r with
 |zero =>
  intro i hi T F O w hT hF hX hW _
  obtain rfl : i = 4 := by omega
  exact h0 F O w T hT hF hX hW
 |succ r ih =>
  intro i hi T F O w hT hF hX hW hlt
  have hi4 : i < 4 := by omega
  refine q4e hT hF (b := true) (xdt (by omega)) ?_
  refine WG.ctl rfl hF (fun w1 => stepG_skip) ?_
  refine WG.ctl rfl hF (fun w1 => stepG_seq) ?_
  refine WG.ctl rfl hF (fun w1 => stepG_block) ?_
  refine jbk hT hF fun kb w3 e3 hkb hcell hF3 => ?_
  obtain ⟨o, ho, hop, hd, hg⟩ : ∃ o, R8[0]? = some o ∧ o.op = .call { callee := .value (.func 53), args := #[.tmp 11, .const (.int .i64 1)], argTypes := #[122, 3] } ∧ o.dst = some 21 ∧ o.guard = none := ⟨_, rfl, rfl, rfl, rfl⟩
  have hwant : Region.wanted o (yielded R8 (Act.mk (T7 i kb T) []).tmps) = true := by unfold Region.wanted; rw [hg]
  have ev : ∀ w1, (execOp (Act.mk (T7 i kb T) []).eval o).run Tryz.prog w1 = .ok (.enter 53 #[.pointer (some ⟨Wg, 0, none⟩), .int .i64 1]) w1 ∧ (execOp (Act.mk (T7 i kb T) []).eval o).events Tryz.prog w1 #[] = #[] := fun w1 => by
   have b11 : (Act.mk (T7 i kb T) []).eval (.tmp 11) = .pointer (some ⟨Wg, 0, none⟩) := (hT.t7 (kb := kb)).t11
   have bc : (Act.mk (T7 i kb T) []).eval (.const (.int .i64 1)) = .int .i64 1 := rfl
   have bf : (Act.mk (T7 i kb T) []).eval (.func 53) = .func (.func 53) #[] #[] := rfl
   generalize (Act.mk (T7 i kb T) []).eval = e at *
   unfold execOp
   constructor
   ·simp [go_sem, hop, b11, bc, bf]
   ·simp [go_sem, hop, b11, bc, bf]
    simp [callFunc, go_sem, Tryz.func53, Tryz.f53]
  refine WG.quiet rfl hF3 fun w4 e4 => ⟨_, 0, _, stepG_enter ho hwant (by decide) (ev w4).1, fun e' he => ?_, ?_⟩
  ·have := mem_listed he
   rw [(ev w4).2] at this
   simp at this
  refine WG.stop fun w5 e5 => ⟨rfl, fun hl => ?_⟩
  have hX5 : Fx (fun b => F b ∨ b = kb) w5 := hx _ _ _ (hx _ _ _ (hxm F _ _ (hx _ _ _ hX e3) (fun b hb => .inl hb)) e4) e5
  have hW' : ¬ (fun b => F b ∨ b = kb) Wg := fun h => h.elim hW fun e => by omega
  have hF5 := (hF3.ext e4).ext e5
  have hc5 : w5.cell? ⟨kb, 0, none⟩ = some (.int .i64 i) := (vz (a := ⟨kb, 0, none⟩) ((e4.trans e5).keep kb (.inr rfl))).trans hcell
  have hlt5 : Wg < w5.heap.size := xll (xll hlt e3.size) (xlt e4.size e5.size)
  have hF6 : FOk (fun b => F b ∨ b = kb) (fun _ => False) w5 := ⟨hF5.low, fun _ h => h.elim⟩
  have e0 : 4 - (r + 1) = i := by omega
  rw [e0]
  exact sAdd hT.t7 hW' hl (fun w6 e6 _ => hs i hi4 _ w6 kb (hx _ _ _ hX5 e6) (hF6.ext e6) (.inr rfl) ((vz (a := ⟨kb, 0, none⟩) (e6.keep kb (.inr rfl))).trans hc5))
   (fun w6 e6 => jbl hi4 hT (hF6.ext e6) fun T' hT' => ih (i + 1) (by omega) T' _ _ w6 hT' (hF6.ext e6) (hx _ _ _ hX5 e6) hW' (xll hlt5 e6.size))
end
section
variable {P : Program} {ty : TypeId} {Wg : Nat} {F : Blocks} {A K K' : Goroutine → World → Prop}
theorem qjc.mono (hk : ∀ g w, K g w → K' g w) {g : Goroutine} {w : World} (h : qjc P ty Wg F K g w) : qjc P ty Wg F K' g w :=
 MG.mono h fun _ _ h1 => h1.keep fun _ h2 => MG.mono h2 fun _ _ h3 => h3.keep fun _ h4 => hk _ _ h4
theorem qjb.mono (hk : ∀ g w, K g w → K' g w) {g : Goroutine} {w : World} (h : qjb P ty Wg F K g w) : qjb P ty Wg F K' g w :=
 ⟨h.1, fun hw => let ⟨g', a, b⟩ := h.2 hw; ⟨g', a, qjc.mono hk b⟩⟩
theorem qf3.mono (hk : ∀ g w, K g w → K' g w) {g : Goroutine} {w : World} (h : qf3 P ty Wg F K g w) : qf3 P ty Wg F K' g w :=
 ⟨h.1, h.2.1, h.2.2.1, fun hw => let ⟨g', a, b⟩ := h.2.2.2 hw; ⟨g', a, MG.mono b fun _ _ h => qjb.mono hk h⟩⟩
theorem qja.mono (hk : ∀ g w, K g w → K' g w) {vs : Nat} {g : Goroutine} {w : World} (h : qja P ty Wg F A K vs g w) : qja P ty Wg F A K' vs g w :=
 ⟨h.1, fun v hv hw => ⟨fun e => let ⟨g', a, b⟩ := (h.2 v hv hw).1 e; ⟨g', a, MG.mono b fun _ _ h => h.keep fun _ h => MG.mono h fun _ _ h => qf3.mono hk h⟩, (h.2 v hv hw).2⟩⟩
theorem qfw.mono (hk : ∀ g w, K g w → K' g w) {g : Goroutine} {w : World} (h : qfw P ty Wg F A K g w) : qfw P ty Wg F A K' g w :=
 ⟨h.1, fun v hv hw => let ⟨g', a, b, c⟩ := h.2 v hv hw; ⟨g', a, fun e => qjc.mono hk (b e), fun e => MG.mono (c e) fun _ _ h => qja.mono hk h⟩⟩
end
noncomputable def sT : Code := match sR with | .seq _ c => c | _ => .skip
noncomputable def R11 : Array Oper := match sR with | .seq a _ => rg a | _ => #[]
theorem jbm : sR = .seq (.region 11 R11 false) sT := rfl
section
variable {mo : Value} {cb fb tb C Wg : Nat} {k : List Item} {cs : List Frame} {jb : Nat → Blocks → Value → World → Prop}
def Behind (mo : Value) (cb fb tb C Wg : Nat) (k : List Item) (cs : List Frame) (T0 : Array Value) (g : Goroutine) (_ : World) : Prop := g = G (bS.at ⟨T0.setIfInBounds 24 (.tuple #[]), []⟩ (.code sT :: k)) cs ∧ ScH mo cb fb tb C Wg 4 T0
def KS (mo : Value) (cb fb tb C Wg : Nat) (k : List Item) (cs : List Frame) (g : Goroutine) (w : World) : Prop := ∃ F T, MG Tryz.prog link.tWg Wg F (Behind mo cb fb tb C Wg k cs T) g w
theorem jbp {F O : Blocks} {w : World} {T0 : Array Value} (hT0 : ScH mo cb fb tb C Wg 4 T0) (hF : FOk F O w) :
  WG Tryz.prog true (Scr Tryz.prog link.tWg Wg C 4 jb (KS mo cb fb tb C Wg k cs) 0) F O (G (bS.at ⟨T0, []⟩ (.code sL :: .inLoop sL :: .inBlock 0 :: .code sR :: k)) cs) w := by
 refine q4e hT0 hF (b := false) (xdf (by decide)) ?_
 refine WG.ctl rfl hF (fun w1 => stepG_exit rfl) ?_
 rw [jbm]
 refine WG.ctl rfl hF (fun w1 => stepG_seq) ?_
 refine WG.ctl rfl hF (fun w1 => stepG_region) ?_
 have hT : ScH mo cb fb tb C Wg 4 (T0.setIfInBounds 19 (.bool false)) := ⟨by simp [hT0.size], (qx (by decide)).trans hT0.t4, (qx (by decide)).trans hT0.t5, (qx (by decide)).trans hT0.t6, (qx (by decide)).trans hT0.t10, (qx (by decide)).trans hT0.t11, (qx (by decide)).trans hT0.t18, (qx (by decide)).trans hT0.t3⟩
 change WG _ _ _ _ _ (G (bS.at ⟨T0.setIfInBounds 19 (.bool false), []⟩ (.inRegion R11 [0] :: _)) cs) w
 generalize T0.setIfInBounds 19 (.bool false) = T at *
 obtain ⟨o, ho, hop, hd, hg⟩ : ∃ o, R11[0]? = some o ∧ o.op = .call { callee := .value (.func 57), args := #[.tmp 11], argTypes := #[122] } ∧ o.dst = some 24 ∧ o.guard = none := ⟨_, rfl, rfl, rfl, rfl⟩
 have hwant : Region.wanted o (yielded R11 (Act.mk T []).tmps) = true := by unfold Region.wanted; rw [hg]
 have ev : ∀ w1, (execOp (Act.mk T []).eval o).run Tryz.prog w1 = .ok (.enter 57 #[.pointer (some ⟨Wg, 0, none⟩)]) w1 ∧ (execOp (Act.mk T []).eval o).events Tryz.prog w1 #[] = #[] := fun w1 => by
  have b11 : (Act.mk T []).eval (.tmp 11) = .pointer (some ⟨Wg, 0, none⟩) := hT.t11
  have bf : (Act.mk T []).eval (.func 57) = .func (.func 57) #[] #[] := rfl
  generalize (Act.mk T []).eval = e at *
  unfold execOp
  constructor
  ·simp [go_sem, hop, b11, bf]
  ·simp [go_sem, hop, b11, bf]
   simp [callFunc, go_sem, Tryz.func57, Tryz.f57]
 refine WG.quiet rfl hF fun w4 e4 => ⟨_, 0, _, stepG_enter ho hwant (by decide) (ev w4).1, fun e' he => ?_, ?_⟩
 ·have := mem_listed he
  rw [(ev w4).2] at this
  simp at this
 refine WG.stop fun w5 e5 => ⟨rfl, fun hl => ?_⟩
 refine ⟨Anch link Wg (bS.at ⟨T, []⟩ (.inRegion R11 [0] :: .code sT :: k)) cs, fun g w h => by obtain ⟨T, rfl, _⟩ := h; rfl, fun g w h => ?_, ?_⟩
 ·have h1 := waitRound (F := F) qs2 (K := Behind mo cb fb tb C Wg k cs T) (mT := 1) (b₀ := bS) (a₀ := ⟨T, []⟩) (ops₀ := R11) (i₀ := 0) (rest₀ := []) (k₀ := .code sT :: k) (cs := cs) (fun w _ => by
   refine Goes.step rfl fun w1 _ => ?_
   rw [stepG_region_end]
   simp only [goes_go]
   exact ⟨⟨rfl, rfl⟩, fun _ _ => ⟨rfl, hT⟩⟩) g w h
  exact MG.mono h1 fun g w h => qfw.mono (fun g w h => ⟨F, T, h⟩) h
 ·have h2 := waitStart (F := F) (cs := cs) qs2 (c := bS.at ⟨T, []⟩ (.inRegion R11 [0] :: .code sT :: k)) w5 hl
  rw [enter_at _ Tryz.func57 (show Tryz.f57.body = some (body_wait link) from rfl)]
  walk_nrmf Tryz.f57
  exact h2
end
theorem qp1 {mo : Value} {cb fb tb C Wg o L0 : Nat} {k : List Item} {cs : List Frame} {jb : Nat → Blocks → Value → World → Prop} {SB : Blocks} {gs : Array Goroutine} {a : Goroutine} {w w0 : World} {sl : Option (Nat × Nat)} {t : Trace} {D : Nat → WX} {FM : Blocks} {q : Nat → Nat}
  (hJ : Joined Tryz.prog o Wg C 4 SB jb (KS mo cb fb tb C Wg k cs) L0 w0 gs a w t D FM q) :
  ∃ (N : Nat) (gs' : Array Goroutine) (T : Array Value) (d : Nat) (sl' : Option (Nat × Nat)) (t' : Trace) (q' : Nat → Nat), runNT Tryz.prog N (crowd gs w sl) t = (.next (crowd gs' (w.at d) sl'), t') ∧ gs'.size = gs.size ∧
   gs'[0]? = some (G (bS.at ⟨T.setIfInBounds 24 (.tuple #[]), []⟩ (.code sT :: k)) cs) ∧ ScH mo cb fb tb C Wg 4 T ∧ Leavers Tryz.prog t' gs' q' ∧ vo (fun b => SB b ∨ b = Wg) (w.at d) gs'.size t' := by
 obtain ⟨F, T, m, hg⟩ := hJ.k
 obtain ⟨N, gs', a', d, sl', t', q', h1, h2, h3, ⟨h4, h5⟩, h6, h7⟩ := qp3 (P := Tryz.prog) (SB := fun b => SB b ∨ b = Wg) (R := RM link.tWg Wg F) (Stop := Behind mo cb fb tb C Wg k cs T) (fun w d => ⟨⟨jy _, fun _ _ => rfl⟩, id⟩) (fun g w h => by rw [h.1]; rfl) m gs a w sl t q hJ.main hJ.leavers hJ.past hg
 subst h4
 exact ⟨N, gs', T, d, sl', t', q', h1, h2, h3, h5, h6, h7⟩
end
section
open Go Go.Conc Go.ConcN Sim
section
variable {X : Cx} {Fb : FuncId → Bool} {sp : FuncId → Bool}
theorem qnc (hPP : X.P' = X.P) (S : X.Set Fb true sp) {ρ : Rel} {e : Operand → Value} {o : Oper} {w w1 : World} {v : Value} (hok : qa0 X.P X.P' Fb true o = true) (he : EvR X.F Fb ρ e e) (hw : WR X ρ w w) (hr : (execOp e o).run X.P w = .ok (.value v) w1) :
  ∃ ρ1, ρ.le ρ1 ∧ WR X ρ1 w1 w1 ∧ VR X.F ρ1 v v ∧ xh (rng ρ) (own X ρ) w (rng ρ1) (own X ρ1) w1 ((execOp e o).events X.P w #[]) ∧ (NB w → NB w1) := by
 have hs := SS.execOp S.ok true S.wrs o hok e e he
 obtain ⟨ρ1, a', w1', es1, h1, h2, h3, h4, h5, h6, h7⟩ := hs.1 w w _ w1 #[] hw hr
 rw [hPP] at h1
 have e1 := congrArg Prod.fst h1
 rw [Sem.runT_fst, hr] at e1
 have e1 : (Result.ok (Next.value v) w1 : Result Next) = .ok a' w1' := e1
 injection e1 with ea ew
 subst ea; subst ew
 have ee : (execOp e o).events X.P w #[] = es1 := by
  have := congrArg Prod.snd h1
  simpa [Sem.runT_eq] using this
 cases h6 with
 |value hv => exact ⟨ρ1, h3.le, h2, hv, by rw [ee]; exact qcs hw h3 h2 h5, fun _ => trivial⟩
end
end
section
open Go.Conc Go.ConcN Go.RowKit Go.Conc.Lib Go.ConcR.Gen Go.ConcN.Gen Go Sim
open Go.ConcR (KK wgBlock WgAt stA smA rd wr mk Payload Aside2 DC0 ofEvent_cell)
def qdn (w : World) : World := { w with heap := w.heap.push (wgBlock link.tWg 0 0) }
theorem qsw {e : Operand → Value} {o : Oper} (hop : o.op = .alloc 122) (w : World) : (execOp e o).run Tryz.prog w = .ok (.value (.pointer (some ⟨w.heap.size, 0, none⟩))) (qdn w) ∧ (execOp e o).events Tryz.prog w #[] = #[] := by
 unfold execOp
 constructor
 ·simp [go_sem, hop, qdn, Instr.alloc, wgBlock]
 ·simp [go_sem, hop, Instr.alloc]
theorem qtu {w : World} : WgAt link.tWg w.heap.size (qdn w) 0 0 := by
 show (w.heap.push _)[_]? = _
 rw [Array.getElem?_push, if_pos rfl]
noncomputable def R4 : Array Oper := match qdk with | .seq _ (.seq _ (.seq _ (.seq a _))) => rg a | _ => #[]
theorem qqq {gs : Array Goroutine} {a : Act} {k : List Item} {cs : List Frame} {w : World} {sl : Option (Nat × Nat)} {t : Trace} {q : Nat → Nat} {SB : Blocks} (h0 : gs[0]? = some (G (bS.at a (.inRegion R4 [0] :: k)) cs)) (hL : Leavers Tryz.prog t gs q) (hP : vo SB w gs.size t) :
  ∃ (gs' : Array Goroutine) (d : Nat) (sl' : Option (Nat × Nat)) (t' : Trace) (q' : Nat → Nat), Runs Tryz.prog gs w sl t gs' (qdn (w.at d)) sl' t' ∧ gs'.size = gs.size ∧ gs'[0]? = some (G (bS.at (a.put (some 11) (.pointer (some ⟨w.heap.size, 0, none⟩))) (.inRegion R4 [] :: k)) cs) ∧
   Leavers Tryz.prog t' gs' q' ∧ vo SB (qdn (w.at d)) gs'.size t' ∧ WgAt link.tWg w.heap.size (qdn (w.at d)) 0 0 ∧ ∀ x : Addr, x.block = w.heap.size → qb4 t' (.cell x) := by
 obtain ⟨o, ho, hop, hd, hg⟩ : ∃ o, R4[0]? = some o ∧ o.op = .alloc 122 ∧ o.dst = some 11 ∧ o.guard = none := ⟨_, rfl, rfl, rfl, rfl⟩
 have hwant : Region.wanted o (yielded R4 a.tmps) = true := by unfold Region.wanted; rw [hg]
 have hs : ∀ d, stepG Tryz.prog true (G (bS.at a (.inRegion R4 [0] :: k)) cs) (w.at d) = .go (G (bS.at (a.put (some 11) (.pointer (some ⟨w.heap.size, 0, none⟩))) (.inRegion R4 [] :: k)) cs) (qdn (w.at d)) #[] := fun d => by
  have hl : listed Tryz.prog bS.fn a o (w.at d) = #[] := by unfold listed; rw [(qsw hop _).2, seen_none]
  have := stepG_value (P := Tryz.prog) (main := true) (b := bS) (k := k) (cs := cs) (rest := []) ho hwant (by decide) (qsw (e := a.eval) hop (w.at d)).1
  rw [hl, hd] at this
  exact this
 have hsz : ∀ d, (qdn (w.at d)).heap.size = w.heap.size + 1 := fun d => by
  show (w.heap.push _).size = _
  rw [Array.size_push]
 obtain ⟨N, gs', a', d, w', es, sl', t', q', h1, h2, h3, h4, h5, h6, h7⟩ := yx (P := Tryz.prog) (SB := SB) (sl := sl) h0 rfl hL hP fun d => ⟨_, _, _, hs d, by rw [hsz]; exact Nat.le_succ _, by simp⟩
 rw [hs d] at h2
 injection h2 with e1 e2 e3
 subst e1; subst e2; subst e3
 refine ⟨gs', d, sl', t', q', ⟨N, h1⟩, h3, h4, h5, h6, qtu (w := w.at d), fun x hx => h7 _ (qjz (B := w.heap.size) (fun op hop => hP.seen op hop) (by omega)) (by simp)⟩
end
section
open Go Go.Conc Go.ConcN Sim
section
variable {P : Program} {b : Frame} {a : Act} {k : List Item} {cs cs' : List Frame} {ops : Array Oper} {i : Nat} {rest : List Nat} {o : Oper} {fr jv fr' : Frame}
theorem Sil.ctl (h : ∀ w, stepG P true (G fr cs) w = .go (G jv cs) w #[]) (n : Sil P jv cs fr' cs') : Sil P fr cs fr' cs' := .step h n
theorem Sil.value (v : Value) (ho : ops[i]? = some o) (hw : Region.wanted o (yielded ops a.tmps) = true) (hk : b.kind ≠ .early)
  (hr : ∀ w, (execOp a.eval o).run P w = .ok (.value v) w ∧ (execOp a.eval o).events P w #[] = #[])
  (n : Sil P (b.at (a.put o.dst v) (.inRegion ops rest :: k)) cs fr' cs') : Sil P (b.at a (.inRegion ops (i :: rest) :: k)) cs fr' cs' :=
 .step (fun w => by
  rw [stepG_value ho hw hk (hr w).1]
  unfold listed
  rw [(hr w).2, seen_none]) n
end
noncomputable def R12 : Array Oper := match sT with | .seq a _ => rg a | _ => #[]
noncomputable def sT2 : Code := match sT with | .seq _ c => c | _ => .skip
noncomputable def R13 : Array Oper := match sT2 with | .seq (.seq a _) _ => rg a | _ => #[]
noncomputable def tL : Code := match sT2 with | .seq (.seq _ (.block _ (.loop c))) _ => c | _ => .skip
noncomputable def tE : Code := match sT2 with | .seq _ c => c | _ => .skip
theorem jbo : sT = .seq (.region 12 R12 false) sT2 := rfl
theorem q6k : sT2 = .seq (.seq (.region 13 R13 false) (.block 2 (.loop tL))) tE := rfl
noncomputable def tIn : Code := match tL with | .seq _ (.seq _ (.seq (.block _ c) _)) => c | _ => .skip
noncomputable def R14 : Array Oper := match tL with | .seq a _ => rg a | _ => #[]
noncomputable def R17 : Array Oper := match tL with | .seq _ (.seq _ (.seq _ a)) => rg a | _ => #[]
noncomputable def R15 : Array Oper := match tIn with | .seq a _ => rg a | _ => #[]
noncomputable def R16 : Array Oper := match tIn with | .seq _ a => rg a | _ => #[]
noncomputable def R18 : Array Oper := match tE with | .seq a _ => rg a | _ => #[]
theorem jbt : tL = .seq (.region 14 R14 false) (.seq (.cond (.tmp 27) .skip (.exit 2)) (.seq (.block 3 tIn) (.region 17 R17 false))) := rfl
theorem q6y : tIn = .seq (.region 15 R15 false) (.region 16 R16 false) := rfl
theorem jbs : tE = .seq (.region 18 R18 false) .ret := rfl
section
variable {T : Array Value} {k : List Item} {cs : List Frame}
theorem jby : Sil Tryz.prog (bS.at ⟨T, []⟩ (.code sT :: k)) cs (bS.at ⟨T.setIfInBounds 13 (.slice none 0 0), []⟩ (.inRegion R13 [0, 1] :: .code (.block 2 (.loop tL)) :: .code tE :: k)) cs := by
 rw [jbo]
 refine Sil.ctl (fun w1 => stepG_seq) ?_
 refine Sil.ctl (fun w1 => stepG_region) ?_
 change Sil _ (bS.at ⟨T, []⟩ (.inRegion R12 [0] :: _)) _ _ _
 obtain ⟨o, ho, hop, hd, hg⟩ : ∃ o, R12[0]? = some o ∧ o.op = .assign (.const (.slice none 0 0)) ∧ o.dst = some 13 ∧ o.guard = none := ⟨_, rfl, rfl, rfl, rfl⟩
 have hwant : Region.wanted o (yielded R12 (Act.mk T []).tmps) = true := by unfold Region.wanted; rw [hg]
 refine Sil.value (.slice none 0 0) ho hwant (by decide) (fun w => ?_) ?_
 ·have bc : (Act.mk T []).eval (.const (.slice none 0 0)) = .slice none 0 0 := rfl
  generalize (Act.mk T []).eval = e at *
  unfold execOp
  constructor
  ·simp [go_sem, hop, bc]
  ·simp [go_sem, hop, bc]
 rw [hd]
 change Sil _ (bS.at ⟨T.setIfInBounds 13 (.slice none 0 0), []⟩ (.inRegion R12 [] :: _)) _ _ _
 refine Sil.ctl (fun w1 => stepG_region_end) ?_
 rw [q6k]
 refine Sil.ctl (fun w1 => stepG_seq) ?_
 refine Sil.ctl (fun w1 => stepG_seq) ?_
 refine Sil.ctl (fun w1 => stepG_region) ?_
 exact Sil.refl _ _
theorem q4f {i : Nat} (hsz : T.size = 42) (h26 : T.getD 26 undef = .int .i64 i) {b : Bool} (hb : decide ((i : Int) < 4) = b) :
  Sil Tryz.prog (bS.at ⟨T, []⟩ (.code tL :: k)) cs (bS.at ⟨T.setIfInBounds 27 (.bool b), []⟩ (.code (if b then .skip else .exit 2) :: .code (.seq (.block 3 tIn) (.region 17 R17 false)) :: k)) cs := by
 rw [jbt]
 refine Sil.ctl (fun w1 => stepG_seq) ?_
 refine Sil.ctl (fun w1 => stepG_region) ?_
 change Sil _ (bS.at ⟨T, []⟩ (.inRegion R14 [0] :: _)) _ _ _
 obtain ⟨o, ho, hop, hd, hg⟩ : ∃ o, R14[0]? = some o ∧ o.op = .binOp .lss 3 (.tmp 26) (.const (.int .i64 4)) 3 ∧ o.dst = some 27 ∧ o.guard = none := ⟨_, rfl, rfl, rfl, rfl⟩
 have hwant : Region.wanted o (yielded R14 (Act.mk T []).tmps) = true := by unfold Region.wanted; rw [hg]
 refine Sil.value (.bool b) ho hwant (by decide) (fun w1 => ?_) ?_
 ·have b26 : (Act.mk T []).eval (.tmp 26) = .int .i64 i := h26
  have bc : (Act.mk T []).eval (.const (.int .i64 4)) = .int .i64 4 := rfl
  generalize (Act.mk T []).eval = e at *
  unfold execOp
  constructor
  ·simp [go_sem, hop, b26, bc, hb]
  ·simp [go_sem, hop, b26, bc]
 rw [hd]
 change Sil _ (bS.at ⟨T.setIfInBounds 27 (.bool b), []⟩ (.inRegion R14 [] :: _)) _ _ _
 refine Sil.ctl (fun w1 => stepG_region_end) ?_
 refine Sil.ctl (fun w1 => stepG_seq) ?_
 have hc : (Act.mk (T.setIfInBounds 27 (.bool b)) []).eval (.tmp 27) = .bool b := zh (by rw [hsz]; omega)
 exact Sil.ctl (fun w1 => stepG_cond hc) (Sil.refl _ _)
theorem tEnd {v : Value} (hsz : T.size = 42) (h13 : T.getD 13 undef = v) :
  Sil Tryz.prog (bS.at ⟨T, []⟩ (.code tE :: k)) cs { bS.at ⟨((T.setIfInBounds 41 v).setIfInBounds 8 v).setIfInBounds 9 (.int .i64 0), []⟩ (.code .ret :: k) with mode := .returning } cs := by
 rw [jbs]
 refine Sil.ctl (fun w1 => stepG_seq) ?_
 refine Sil.ctl (fun w1 => stepG_region) ?_
 change Sil _ (bS.at ⟨T, []⟩ (.inRegion R18 [0, 1, 2] :: _)) _ _ _
 obtain ⟨o, ho, hop, hd, hg⟩ : ∃ o, R18[0]? = some o ∧ o.op = .move (.tmp 13) ∧ o.dst = some 41 ∧ o.guard = none := ⟨_, rfl, rfl, rfl, rfl⟩
 have hwant : Region.wanted o (yielded R18 (Act.mk T []).tmps) = true := by unfold Region.wanted; rw [hg]
 refine Sil.value v ho hwant (by decide) (fun w1 => ?_) ?_
 ·have b13 : (Act.mk T []).eval (.tmp 13) = v := h13
  generalize (Act.mk T []).eval = e at *
  unfold execOp
  constructor
  ·simp [go_sem, hop, b13]
  ·simp [go_sem, hop, b13]
 rw [hd]
 change Sil _ (bS.at ⟨T.setIfInBounds 41 v, []⟩ (.inRegion R18 [1, 2] :: _)) _ _ _
 obtain ⟨o1, ho1, hop1, hd1, hg1⟩ : ∃ o, R18[1]? = some o ∧ o.op = .assign (.tmp 41) ∧ o.dst = some 8 ∧ o.guard = none := ⟨_, rfl, rfl, rfl, rfl⟩
 have qgk : Region.wanted o1 (yielded R18 (Act.mk (T.setIfInBounds 41 v) []).tmps) = true := by unfold Region.wanted; rw [hg1]
 refine Sil.value v ho1 qgk (by decide) (fun w1 => ?_) ?_
 ·have b41 : (Act.mk (T.setIfInBounds 41 v) []).eval (.tmp 41) = v := zh (by rw [hsz]; omega)
  generalize (Act.mk (T.setIfInBounds 41 v) []).eval = e at *
  unfold execOp
  constructor
  ·simp [go_sem, hop1, b41]
  ·simp [go_sem, hop1, b41]
 rw [hd1]
 change Sil _ (bS.at ⟨(T.setIfInBounds 41 v).setIfInBounds 8 v, []⟩ (.inRegion R18 [2] :: _)) _ _ _
 obtain ⟨o2, ho2, hop2, hd2, hg2⟩ : ∃ o, R18[2]? = some o ∧ o.op = .assign (.const (.int .i64 0)) ∧ o.dst = some 9 ∧ o.guard = none := ⟨_, rfl, rfl, rfl, rfl⟩
 have qqw : Region.wanted o2 (yielded R18 (Act.mk ((T.setIfInBounds 41 v).setIfInBounds 8 v) []).tmps) = true := by unfold Region.wanted; rw [hg2]
 refine Sil.value (.int .i64 0) ho2 qqw (by decide) (fun w1 => ?_) ?_
 ·have bc : (Act.mk ((T.setIfInBounds 41 v).setIfInBounds 8 v) []).eval (.const (.int .i64 0)) = .int .i64 0 := rfl
  generalize (Act.mk ((T.setIfInBounds 41 v).setIfInBounds 8 v) []).eval = e at *
  unfold execOp
  constructor
  ·simp [go_sem, hop2, bc]
  ·simp [go_sem, hop2, bc]
 rw [hd2]
 change Sil _ (bS.at ⟨((T.setIfInBounds 41 v).setIfInBounds 8 v).setIfInBounds 9 (.int .i64 0), []⟩ (.inRegion R18 [] :: _)) _ _ _
 refine Sil.ctl (fun w1 => stepG_region_end) ?_
 exact Sil.ctl (fun w1 => rfl) (Sil.refl _ _)
theorem jbw {i : Nat} (hi : i < 4) (hsz : T.size = 42) (h26 : T.getD 26 undef = .int .i64 i) :
  Sil Tryz.prog (bS.at ⟨T, []⟩ (.inRegion R16 [] :: .inBlock 3 :: .code (.region 17 R17 false) :: .inLoop tL :: k)) cs (bS.at ⟨(T.setIfInBounds 40 (.int .i64 ((i + 1 : Nat) : Int))).setIfInBounds 26 (.int .i64 ((i + 1 : Nat) : Int)), []⟩ (.code tL :: .inLoop tL :: k)) cs := by
 refine Sil.ctl (fun w1 => stepG_region_end) ?_
 refine Sil.ctl (fun w1 => stepG_inBlock) ?_
 refine Sil.ctl (fun w1 => stepG_region) ?_
 change Sil _ (bS.at ⟨T, []⟩ (.inRegion R17 [0, 1] :: _)) _ _ _
 obtain ⟨o, ho, hop, hd, hg⟩ : ∃ o, R17[0]? = some o ∧ o.op = .binOp .add 3 (.tmp 26) (.const (.int .i64 1)) 3 ∧ o.dst = some 40 ∧ o.guard = none := ⟨_, rfl, rfl, rfl, rfl⟩
 have hwant : Region.wanted o (yielded R17 (Act.mk T []).tmps) = true := by unfold Region.wanted; rw [hg]
 refine Sil.value (.int .i64 ((i + 1 : Nat) : Int)) ho hwant (by decide) (fun w1 => ?_) ?_
 ·have b26 : (Act.mk T []).eval (.tmp 26) = .int .i64 i := h26
  have bc : (Act.mk T []).eval (.const (.int .i64 1)) = .int .i64 1 := rfl
  have hwrap : IntKind.i64.wrap ((i : Int) + 1) = ((i + 1 : Nat) : Int) := by rw [IntKind.wrap_i64]; omega
  generalize (Act.mk T []).eval = e at *
  unfold execOp
  constructor
  ·simp [go_sem, hop, b26, bc, hwrap]
  ·simp [go_sem, hop, b26, bc]
 rw [hd]
 change Sil _ (bS.at ⟨T.setIfInBounds 40 (.int .i64 ((i + 1 : Nat) : Int)), []⟩ (.inRegion R17 [1] :: _)) _ _ _
 obtain ⟨o1, ho1, hop1, hd1, hg1⟩ : ∃ o, R17[1]? = some o ∧ o.op = .move (.tmp 40) ∧ o.dst = some 26 ∧ o.guard = none := ⟨_, rfl, rfl, rfl, rfl⟩
 have qgk : Region.wanted o1 (yielded R17 (Act.mk (T.setIfInBounds 40 (.int .i64 ((i + 1 : Nat) : Int))) []).tmps) = true := by unfold Region.wanted; rw [hg1]
 refine Sil.value (.int .i64 ((i + 1 : Nat) : Int)) ho1 qgk (by decide) (fun w1 => ?_) ?_
 ·have b40 : (Act.mk (T.setIfInBounds 40 (.int .i64 ((i + 1 : Nat) : Int))) []).eval (.tmp 40) = .int .i64 ((i + 1 : Nat) : Int) := zh (by rw [hsz]; omega)
  generalize (Act.mk (T.setIfInBounds 40 (.int .i64 ((i + 1 : Nat) : Int))) []).eval = e at *
  unfold execOp
  constructor
  ·simp [go_sem, hop1, b40]
  ·simp [go_sem, hop1, b40]
 rw [hd1]
 change Sil _ (bS.at ⟨(T.setIfInBounds 40 (.int .i64 ((i + 1 : Nat) : Int))).setIfInBounds 26 (.int .i64 ((i + 1 : Nat) : Int)), []⟩ (.inRegion R17 [] :: _)) _ _ _
 refine Sil.ctl (fun w1 => stepG_region_end) ?_
 exact Sil.ctl (fun w1 => stepG_inLoop) (Sil.refl _ _)
end
def BGo (cs : List Frame) (fr : Frame) (w : World) (SB : Blocks) (Z : Frame → World → Prop) : Prop :=
 ∀ (d : Nat) (gs : Array Goroutine) (sl : Option (Nat × Nat)) (t : Trace) (q : Nat → Nat), gs[0]? = some (G fr cs) → Leavers Tryz.prog t gs q → vo SB (w.at d) gs.size t →
  ∃ (gs' : Array Goroutine) (fr' : Frame) (w' : World) (sl' : Option (Nat × Nat)) (t' : Trace) (q' : Nat → Nat), Runs Tryz.prog gs (w.at d) sl t gs' w' sl' t' ∧ gs'.size = gs.size ∧ Z fr' w' ∧ gs'[0]? = some (G fr' cs) ∧ Leavers Tryz.prog t' gs' q' ∧ vo SB w' gs'.size t'
def TH (T : Array Value) (l : List (Nat × Value)) : Prop := T.size = 42 ∧ ∀ p ∈ l, T.getD p.1 undef = p.2
theorem TH.sub {T : Array Value} {l l' : List (Nat × Value)} (h : TH T l) (hs : ∀ p ∈ l', p ∈ l) : TH T l' := ⟨h.1, fun p hp => h.2 p (hs p hp)⟩
theorem TH.set {T : Array Value} {l l' : List (Nat × Value)} (h : TH T l) {d : Nat} (v : Value) (hd : d < 42) (hs : ∀ p ∈ l', p ∈ l ∧ p.1 ≠ d) : TH (T.setIfInBounds d v) ((d, v) :: l') := by
 refine ⟨by simp [h.1], fun p hp => ?_⟩
 rcases List.mem_cons.1 hp with rfl | hp
 ·exact zh (by rw [h.1]; exact hd)
 ·exact (qx (Ne.symm (hs p hp).2)).trans (h.2 p (hs p hp).1)
section
variable {cs : List Frame} {fr jv : Frame} {w : World} {SB : Blocks} {Z : Frame → World → Prop} {k : List Item} {T : Array Value}
theorem BGo.done (h : ∀ d, Z fr (w.at d)) : BGo cs fr w SB Z := fun d gs sl t q h0 hL hP => ⟨gs, fr, w.at d, sl, t, q, ⟨0, rfl⟩, rfl, h d, h0, hL, hP⟩
theorem BGo.sil (hs : Sil Tryz.prog fr cs jv cs) (n : BGo cs jv w SB Z) : BGo cs fr w SB Z := fun d gs sl t q h0 hL hP => by
 obtain ⟨gs1, d1, sl1, t1, q1, h1, h2, h3, h4, h5⟩ := hs.runs (SB := SB) (sl := sl) h0 hL hP
 obtain ⟨gs2, fr2, w2, sl2, t2, q2, k1, k2, k3, k4, k5, k6⟩ := n d1 gs1 sl1 t1 q1 h3 h4 h5
 exact ⟨gs2, fr2, w2, sl2, t2, q2, h1.trans k1, k2.trans h2, k3, k4, k5, k6⟩
theorem BGo.one (hrun : (G fr cs).status = .running) (hs : ∀ d, ∃ jv w1 es, stepG Tryz.prog true (G fr cs) (w.at d) = .go (G jv cs) w1 es ∧ w.heap.size ≤ w1.heap.size ∧ (∀ e ∈ es, EvZ SB w1.heap.size e) ∧ BGo cs jv w1 SB Z) : BGo cs fr w SB Z := fun d gs sl t q h0 hL hP => by
 obtain ⟨N, gs1, a1, d1, w1, es, sl1, t1, q1, hr, hgo, hz, h01, hL1, hP1, _⟩ := yx (P := Tryz.prog) (SB := SB) (sl := sl) h0 hrun hL hP fun d => let ⟨jv, w1, es, h1, h2, h3, _⟩ := hs d; ⟨_, _, _, h1, h2, h3⟩
 obtain ⟨jv, w1', es', h1, h2, h3, n⟩ := hs d1
 rw [show (w.at d).at d1 = w.at d1 from rfl] at hgo
 rw [h1] at hgo
 injection hgo with e1 e2 e3
 subst e1; subst e2; subst e3
 obtain ⟨gs2, fr2, w2, sl2, t2, q2, k1, k2, k3, k4, k5, k6⟩ := n w1'.drawn gs1 sl1 t1 q1 h01 hL1 hP1
 exact ⟨gs2, fr2, w2, sl2, t2, q2, Runs.trans ⟨N, hr⟩ k1, k2.trans hz, k3, k4, k5, k6⟩
theorem BGo.val {ops : Array Oper} {i : Nat} {rest : List Nat} {o : Oper} {l l' : List (Nat × Value)} (hT : TH T l) {d : Nat} (v : Value) (ho : ops[i]? = some o) (hdst : o.dst = some d) (hg : o.guard = none) (hd : d < 42) (hs : ∀ p ∈ l', p ∈ l ∧ p.1 ≠ d)
  (hr : ∀ e : Operand → Value, (∀ p ∈ l, e (.tmp p.1) = p.2) → (∀ c, e (.const c) = c) → ∀ w, (execOp e o).run Tryz.prog w = .ok (.value v) w ∧ (execOp e o).events Tryz.prog w #[] = #[])
  (n : ∀ T', TH T' ((d, v) :: l') → BGo cs (bS.at ⟨T', []⟩ (.inRegion ops rest :: k)) w SB Z) : BGo cs (bS.at ⟨T, []⟩ (.inRegion ops (i :: rest) :: k)) w SB Z := by
 have hwant : Region.wanted o (yielded ops (Act.mk T []).tmps) = true := by unfold Region.wanted; rw [hg]
 have ev := hr (Act.mk T []).eval (fun p hp => hT.2 p hp) (fun _ => rfl)
 refine BGo.sil (Sil.value v ho hwant (by decide) ev (.refl _ _)) ?_
 rw [hdst]
 exact n _ (hT.set v hd hs)
end
theorem qhu {SB F O : Blocks} {B : Nat} {e : Event} (h : EvF F O e) (ha : ∀ b, F b → ¬ SB b) (hB : ∀ b, F b → b < B) : EvZ SB B e := ⟨qm1 h ha hB, fun _ hy => (qm0 h hy).1⟩
def qe0 (F : Blocks) (w : World) (v : Value) (n : Nat) (xs : List Value) : Prop :=
 xs.length = n * 2 ∧ ((v = .slice none 0 0 ∧ n = 0) ∨ ∃ g cap cur, v = .slice (some ⟨g, 0, none⟩) n cap ∧ F g ∧ w.heap[g]? = some (.cells cur 74 (0, 0)) ∧ n ≤ cap ∧ cap ≤ maxLen ∧ cur.toList.take (n * 2) = xs ∧ ∀ x ∈ cur.toList, ∃ s, x = .string s)
theorem qe0.ext {F : Blocks} {w w1 : World} {v : Value} {n : Nat} {xs : List Value} (h : qe0 F w v n xs) (k : ∀ b, F b → w1.heap[b]? = w.heap[b]?) : qe0 F w1 v n xs := by
 refine ⟨h.1, h.2.imp id ?_⟩
 rintro ⟨g, cap, cur, h1, h2, h3, h4⟩
 exact ⟨g, cap, cur, h1, h2, (k g h2).trans h3, h4⟩
structure TlS (ρ0 : Rel) (w0 : World) (SB : Blocks) (n : Nat) (xs : List Value) (ov : Value) (ρ : Rel) (w : World) : Prop where
 le : ρ0.le ρ
 wr : WR XG ρ w w
 vr : VR XG.F ρ ov ov
 nb : NB w
 own : w.ownsRow w0.heap.size 74 2 ov n xs
 keep : ∀ b, b < w0.heap.size → w.heap[b]? = w0.heap[b]?
 size : w0.heap.size ≤ w.heap.size
 apart : ∀ b, rng ρ b → ¬ SB b
 os : w.os = w0.os
 output : w.output = w0.output
theorem TlS.at {ρ0 ρ : Rel} {w0 w : World} {SB : Blocks} {n : Nat} {xs : List Value} {ov : Value} (h : TlS ρ0 w0 SB n xs ov ρ w) (d : Nat) : TlS ρ0 w0 SB n xs ov ρ (w.at d) :=
 ⟨h.le, ⟨h.wr.fn, h.wr.inj, h.wr.heap, fun _ _ => rfl, h.wr.sh⟩, h.vr, h.nb, h.own, h.keep, h.size, h.apart, h.os, h.output⟩
theorem qyq : ∃ i, Tryz.prog.info? 74 = some i ∧ i.zero = some (.agg #[.string ⟨#[]⟩, .string ⟨#[]⟩]) ∧ i.size = 2 ∧ i.bytes = 32 := by
 have h : (Tryz.prog.info? 74).map (fun i => (i.zero, i.size, i.bytes)) = some (some (.agg #[.string ⟨#[]⟩, .string ⟨#[]⟩]), 2, 32) := by kernel_rfl
 obtain ⟨i, h1, h2⟩ := Option.map_eq_some_iff.1 h
 injection h2 with h2 h3
 injection h3 with h3 h4
 exact ⟨i, h1, h2, h3, h4⟩
def qrb (v x : Value) : Operand → Value
 | .tmp 29 => v
 | .tmp 38 => x
 | .const c => c
 |_ => undef
theorem qir {P : Program} {w : World} {t e ty : TypeId} {i : TypeInfo} (ht : P.underlying t = some (.slice e)) (hi : P.info? e = some i) {base : Nat} {v : Value} {n : Nat} {xs : List Value} {size : Nat} (h : w.ownsRow base e size v n xs) :
  (Builtin.append_ #[t, t] ty #[v, .slice none 0 0]).run P w = .ok v w := by
 rcases h.2 with ⟨rfl, rfl⟩ | ⟨g, cap, cur, rfl, h1, h2, h3, h4, h5, h6⟩
 ·simp [Builtin.append_, run_underlying ht, sizeOf, typeInfo, hi, Builtin.lenOf, Builtin.firstCells, loadCells, loadCellsFrom]
 ·simp [Builtin.append_, run_underlying ht, sizeOf, typeInfo, hi, Builtin.lenOf, Builtin.firstCells, loadCells, loadCellsFrom, storeCells, h3]
section
variable {cs : List Frame} {SB : Blocks} {Z : Frame → World → Prop} {k : List Item} {T : Array Value} {ρ0 ρ : Rel} {w0 w : World} {n : Nat} {xs : List Value} {ov : Value}
theorem q21 {sa : Option Addr} {lv : Value} {m c kk : Nat} {r : List Value} {l l' : List (Nat × Value)} (h : TlS ρ0 w0 SB n xs ov ρ w) {Gb : Blocks} (hG : ∀ b, Gb b → b < w0.heap.size ∧ ρ0 b b) (hlv : lv = .slice sa m c) (hr : qe0 Gb w0 lv m r) (hkk : kk ≤ m) (hSB : ∀ b, SB b → b < w0.heap.size) (hn : n + kk ≤ 1073741824)
  (hT : TH T l) (h29 : (29, ov) ∈ l) (h38 : (38, .slice sa kk c) ∈ l) (hl' : ∀ p ∈ l', p ∈ l ∧ p.1 ≠ 39 ∧ p.1 ≠ 13)
  (nx : ∀ T' ov' ρ' w', TlS ρ0 w0 SB (n + kk) (xs ++ r.take (kk * 2)) ov' ρ' w' → TH T' ((13, ov') :: l') → BGo cs (bS.at ⟨T', []⟩ (.inRegion R16 [] :: k)) w' SB Z) :
  BGo cs (bS.at ⟨T, []⟩ (.inRegion R16 [10, 11] :: k)) w SB Z := by
 obtain ⟨o, ho, hop, hd, hg⟩ : ∃ o, R16[10]? = some o ∧ o.op = .call { callee := .builtin .append, args := #[.tmp 29, .tmp 38], argTypes := #[47, 47] } ∧ o.dst = some 39 ∧ o.guard = none := ⟨_, rfl, rfl, rfl, rfl⟩
 have hok : qa0 XG.P XG.P' fb true o = true := by
  have : R16[10]?.any (qa0 Tryz.prog Tryz.prog fb true) = true := by kernel_rfl
  rw [ho] at this
  exact this
 obtain ⟨i, hi, hz, hs, hb⟩ := qyq
 have hu : Tryz.prog.underlying 47 = some (.slice 74) := Tryz.underlying47
 have hwant : Region.wanted o (yielded R16 (Act.mk T []).tmps) = true := by unfold Region.wanted; rw [hg]
 have e29 : (Act.mk T []).eval (.tmp 29) = ov := hT.2 _ h29
 have e38 : (Act.mk T []).eval (.tmp 38) = .slice sa kk c := hT.2 _ h38
 have hsame : execOp (Act.mk T []).eval o = execOp (qrb ov (.slice sa kk c)) o := by
  unfold execOp
  simp only [hop, List.map_toArray, List.map_cons, List.map_nil, e29, e38, qrb, resolve]
 refine BGo.one rfl fun d => ?_
 have hd' := h.at d
 -- what it yields
 have hrun : ∃ v' w', (Builtin.append_ #[47, 47] o.type #[ov, .slice sa kk c]).run Tryz.prog (w.at d) = .ok v' w' ∧ w'.ownsRow w0.heap.size 74 2 v' (n + kk) (xs ++ r.take (kk * 2)) ∧ (w.at d).grownBy w' ov.ownBlock := by
  rcases hr.2 with ⟨e, rfl⟩ | ⟨g, cap, cur, e, h1, h2, h3, h4, h5, h6⟩
  ·obtain rfl : kk = 0 := by omega
   rw [hlv] at e
   injection e with e1 e2 e3
   subst e1; subst e3
   refine ⟨ov, w.at d, qir hu hi hd'.own, ?_, ⟨rfl, rfl, rfl, jy _, fun _ _ _ => rfl⟩⟩
   simpa using hd'.own
  ·rw [hlv] at e
   injection e with e1 e2 e3
   subst e1; subst e3
   obtain ⟨v', w', k1, k2, k3, _⟩ := run_append_own (P := Tryz.prog) (w.at d) w0.heap.size 47 o.type 74 i (.agg #[.string ⟨#[]⟩, .string ⟨#[]⟩]) 2 32 hu hi hz hs hb rfl (by decide) ov n xs hd'.own ⟨g, 0, none⟩ kk c (r.take (kk * 2))
    (by rw [List.length_take, hr.1]; omega)
    (fun j u hj => by
     have hjl : j < kk * 2 := by
      have := (List.getElem?_eq_some_iff.1 hj).1
      rw [List.length_take] at this
      omega
     rw [List.getElem?_take_of_lt hjl] at hj
     rw [← h5, List.getElem?_take_of_lt (by omega)] at hj
     have hgh : w.heap[g]? = some (.cells cur 74 (0, 0)) := (h.keep g (hG g h1).1).trans h2
     have ea : (⟨g, 0, none⟩ : Addr).add j = ⟨g, j, none⟩ := by rw [Addr.add_lit, Nat.zero_add]
     rw [ea]
     show w.cell? ⟨g, j, none⟩ = some u
     simp only [World.cell?, hgh]
     simpa using hj)
    (fun u hu => by
     have hm : u ∈ cur.toList := by
      have := List.mem_of_mem_take hu
      rw [← h5] at this
      exact List.mem_of_mem_take this
     obtain ⟨s, rfl⟩ := h6 u hm
     rfl)
    (by unfold maxLen; omega) (by omega) hd'.size
   exact ⟨v', w', k1, k2, k3⟩
 obtain ⟨v', w', k1, k2, k3⟩ := hrun
 have q31 : (execOp (qrb ov (.slice sa kk c)) o).run XG.P (w.at d) = .ok (.value v') w' := by
  unfold execOp
  show Sem.run Tryz.prog _ _ = _
  simp only [hop, resolve, invoke, builtin, Sem.run_bind, Sem.run_pure, Result.andThen_ok, List.map_toArray, List.map_cons, List.map_nil, qrb, k1]
 have hvx : VR XG.F ρ (.slice sa kk c) (.slice sa kk c) := by
  rcases hr.2 with ⟨e, _⟩ | ⟨g, cap, cur, e, h1, _⟩
  ·rw [hlv] at e; injection e with e1 e2 e3; subst e1; exact .jk _ _
  ·rw [hlv] at e; injection e with e1 e2 e3; subst e1; exact .slice (h.le _ _ (hG g h1).2)
 have hev : EvR XG.F fb ρ (qrb ov (.slice sa kk c)) (qrb ov (.slice sa kk c)) := by
  refine ⟨fun x hx => ?_, fun _ => rfl⟩
  unfold qrb
  split
  ·exact h.vr
  ·exact hvx
  ·exact qdz (fun _ h => h) _ hx
  ·exact qeq
 obtain ⟨ρ1, m1, m2, m3, m4, m5⟩ := qnc rfl qga hok hev hd'.wr q31
 have hap : ∀ b, rng ρ1 b → ¬ SB b := fun b hb hs => by
  rcases m4.new b hb with h1 | h1
  ·exact h.apart b h1 hs
  ·have := hSB b hs
   have h2 : w.heap.size ≤ b := h1
   have := h.size
   omega
 have hst := stepG_value (P := Tryz.prog) (main := true) (b := bS) (k := k) (cs := cs) (rest := [11]) (a := Act.mk T []) (w := w.at d) ho hwant (by decide) (by rw [hsame]; exact q31)
 have hT' : TlS ρ0 w0 SB (n + kk) (xs ++ r.take (kk * 2)) v' ρ1 w' := by
  refine ⟨Rel.le_trans h.le m1, m2, m3, m5 h.nb, k2, fun b hb => ?_, xlt h.size k3.size, hap, k3.os.trans h.os, k3.output.trans h.output⟩
  refine (k3.block b (xll hb h.size) fun e => ?_).trans (h.keep b hb)
  have := (h.own.lt b e.symm).1
  omega
 refine ⟨_, w', _, hst, k3.size, fun e he => ?_, ?_⟩
 ·have := mem_listed he
  rw [hsame] at this
  exact qhu (m4.ev e this) hap m4.low
 ·rw [hd]
  have hTs : TH (T.setIfInBounds 39 v') ((39, v') :: l') := hT.set v' (by decide) fun p hp => ⟨(hl' p hp).1, (hl' p hp).2.1⟩
  change BGo cs (bS.at ⟨T.setIfInBounds 39 v', []⟩ (.inRegion R16 [11] :: k)) w' SB Z
  obtain ⟨o1, ho1, hop1, hd1, hg1⟩ : ∃ o, R16[11]? = some o ∧ o.op = .assign (.tmp 39) ∧ o.dst = some 13 ∧ o.guard = none := ⟨_, rfl, rfl, rfl, rfl⟩
  refine BGo.val hTs v' ho1 hd1 hg1 (by decide) (l' := l') (fun p hp => ⟨.tail _ hp, (hl' p hp).2.2⟩) (fun e he hc w => ?_) fun T1 hT1 => nx T1 v' ρ1 w' hT' hT1
  have b39 := he (39, v') (.head _)
  unfold execOp
  constructor
  ·simp [go_sem, hop1, b39]
  ·simp [go_sem, hop1, b39]
end
section
variable {cs : List Frame} {SB : Blocks} {Z : Frame → World → Prop} {k : List Item} {T : Array Value} {w : World} {ov lv : Value} {fs : Array Value} {most : Int}
theorem q60 {i : Nat} (hi : i < 4) (hv : fs[i]? = some lv) (hT : TH T [(13, ov), (25, .agg fs), (26, .int .i64 i), (3, .int .i64 most)])
  (n : ∀ T', TH T' [(15, lv), (13, ov), (25, .agg fs), (26, .int .i64 i), (3, .int .i64 most)] → BGo cs (bS.at ⟨T', []⟩ (.code (.region 16 R16 false) :: k)) w SB Z) :
  BGo cs (bS.at ⟨T, []⟩ (.code tIn :: k)) w SB Z := by
 rw [q6y]
 refine BGo.sil (Sil.ctl (fun w1 => stepG_seq) (Sil.ctl (fun w1 => stepG_region) (.refl _ _))) ?_
 change BGo cs (bS.at ⟨T, []⟩ (.inRegion R15 [0, 1] :: _)) _ _ _
 obtain ⟨o150, q91, qw4, hd150, q9n⟩ : ∃ o, R15[0]? = some o ∧ o.op = .index 112 (.tmp 25) (.tmp 26) ∧ o.dst = some 28 ∧ o.guard = none := ⟨_, rfl, rfl, rfl, rfl⟩
 refine BGo.val hT (lv) q91 hd150 q9n (by decide) (l' := [(13, ov), (25, .agg fs), (26, .int .i64 i), (3, .int .i64 most)]) (by simp) (fun e he hc w => ?_) fun T hT => ?_
 ·have b26 := he (26, .int .i64 i) (by simp)
  have b25 := he (25, .agg fs) (by simp)
  unfold execOp
  constructor
  ·simp [go_sem, qw4, b26, b25, hv, Instr.index, part]; try (intro h4; omega)
  ·simp [go_sem, qw4, b26, b25, hv, Instr.index, part]; try (intro h4; omega)
 obtain ⟨o151, q92, qw5, hd151, q9o⟩ : ∃ o, R15[1]? = some o ∧ o.op = .assign (.tmp 28) ∧ o.dst = some 15 ∧ o.guard = none := ⟨_, rfl, rfl, rfl, rfl⟩
 refine BGo.val hT (lv) q92 hd151 q9o (by decide) (l' := [(13, ov), (25, .agg fs), (26, .int .i64 i), (3, .int .i64 most)]) (by simp) (fun e he hc w => ?_) fun T hT => ?_
 ·have b28 := he (28, lv) (by simp)
  unfold execOp
  constructor
  ·simp [go_sem, qw5, b28]
  ·simp [go_sem, qw5, b28]
 refine BGo.sil (Sil.ctl (fun w1 => stepG_region_end) (.refl _ _)) ?_
 exact n T hT
theorem tCut {i : Nat} {sa : Option Addr} {m c nn kk : Nat} {oa : Option Addr} {oc : Nat} (hlv : lv = .slice sa m c) (hov : ov = .slice oa nn oc) (h0 : (nn : Int) ≤ most) (h1 : most ≤ 9223372036854775807) (hkk : (kk : Int) = if most - nn < m then most - nn else m) (hmc : m ≤ c)
  (hT : TH T [(15, lv), (13, ov), (25, .agg fs), (26, .int .i64 i), (3, .int .i64 most)])
  (n : ∀ T', TH T' [(38, .slice sa kk c), (29, ov), (25, .agg fs), (26, .int .i64 i), (3, .int .i64 most)] → BGo cs (bS.at ⟨T', []⟩ (.inRegion R16 [10, 11] :: k)) w SB Z) :
  BGo cs (bS.at ⟨T, []⟩ (.code (.region 16 R16 false) :: k)) w SB Z := by
 subst hlv
 subst hov
 have hkm : kk ≤ m := by split at hkk <;> omega
 have hkc : kk ≤ c := by omega
 have hwrap : IntKind.i64.wrap (most - nn) = most - nn := by rw [IntKind.wrap_i64]; omega
 refine BGo.sil (Sil.ctl (fun w1 => stepG_region) (.refl _ _)) ?_
 change BGo cs (bS.at ⟨T, []⟩ (.inRegion R16 [0, 1, 2, 3, 4, 5, 6, 7, 8, 9, 10, 11] :: _)) _ _ _
 obtain ⟨o160, q93, qw6, hd160, q9p⟩ : ∃ o, R16[0]? = some o ∧ o.op = .move (.tmp 13) ∧ o.dst = some 29 ∧ o.guard = none := ⟨_, rfl, rfl, rfl, rfl⟩
 refine BGo.val hT (.slice oa nn oc) q93 hd160 q9p (by decide) (l' := [(15, .slice sa m c), (13, .slice oa nn oc), (25, .agg fs), (26, .int .i64 i), (3, .int .i64 most)]) (by simp) (fun e he hc w => ?_) fun T hT => ?_
 ·have b13 := he (13, .slice oa nn oc) (by simp)
  unfold execOp
  constructor
  ·simp [go_sem, qw6, b13]
  ·simp [go_sem, qw6, b13]
 obtain ⟨o161, q94, qw7, q9e, q9q⟩ : ∃ o, R16[1]? = some o ∧ o.op = .move (.tmp 15) ∧ o.dst = some 30 ∧ o.guard = none := ⟨_, rfl, rfl, rfl, rfl⟩
 refine BGo.val hT (.slice sa m c) q94 q9e q9q (by decide) (l' := [(29, .slice oa nn oc), (15, .slice sa m c), (13, .slice oa nn oc), (25, .agg fs), (26, .int .i64 i), (3, .int .i64 most)]) (by simp) (fun e he hc w => ?_) fun T hT => ?_
 ·have b15 := he (15, .slice sa m c) (by simp)
  unfold execOp
  constructor
  ·simp [go_sem, qw7, b15]
  ·simp [go_sem, qw7, b15]
 obtain ⟨o162, q95, qw8, q9f, q9r⟩ : ∃ o, R16[2]? = some o ∧ o.op = .move (.tmp 15) ∧ o.dst = some 31 ∧ o.guard = none := ⟨_, rfl, rfl, rfl, rfl⟩
 refine BGo.val hT (.slice sa m c) q95 q9f q9r (by decide) (l' := [(30, .slice sa m c), (29, .slice oa nn oc), (15, .slice sa m c), (13, .slice oa nn oc), (25, .agg fs), (26, .int .i64 i), (3, .int .i64 most)]) (by simp) (fun e he hc w => ?_) fun T hT => ?_
 ·have b15 := he (15, .slice sa m c) (by simp)
  unfold execOp
  constructor
  ·simp [go_sem, qw8, b15]
  ·simp [go_sem, qw8, b15]
 obtain ⟨o163, q96, qw9, q9g, q9s⟩ : ∃ o, R16[3]? = some o ∧ o.op = .call { callee := .builtin .len, args := #[.tmp 31], argTypes := #[47] } ∧ o.dst = some 32 ∧ o.guard = none := ⟨_, rfl, rfl, rfl, rfl⟩
 refine BGo.val hT (.int .i64 m) q96 q9g q9s (by decide) (l' := [(31, .slice sa m c), (30, .slice sa m c), (29, .slice oa nn oc), (15, .slice sa m c), (13, .slice oa nn oc), (25, .agg fs), (26, .int .i64 i), (3, .int .i64 most)]) (by simp) (fun e he hc w => ?_) fun T hT => ?_
 ·have b31 := he (31, .slice sa m c) (by simp)
  unfold execOp
  constructor
  ·simp [go_sem, qw9, b31, Builtin.len_]
  ·simp [go_sem, qw9, b31, Builtin.len_]
 obtain ⟨o164, q97, qxa, q9h, q9t⟩ : ∃ o, R16[4]? = some o ∧ o.op = .move (.tmp 3) ∧ o.dst = some 33 ∧ o.guard = none := ⟨_, rfl, rfl, rfl, rfl⟩
 refine BGo.val hT (.int .i64 most) q97 q9h q9t (by decide) (l' := [(32, .int .i64 m), (31, .slice sa m c), (30, .slice sa m c), (29, .slice oa nn oc), (15, .slice sa m c), (13, .slice oa nn oc), (25, .agg fs), (26, .int .i64 i), (3, .int .i64 most)]) (by simp) (fun e he hc w => ?_) fun T hT => ?_
 ·have b3 := he (3, .int .i64 most) (by simp)
  unfold execOp
  constructor
  ·simp [go_sem, qxa, b3]
  ·simp [go_sem, qxa, b3]
 obtain ⟨o165, q98, qxb, q9i, q9u⟩ : ∃ o, R16[5]? = some o ∧ o.op = .move (.tmp 13) ∧ o.dst = some 34 ∧ o.guard = none := ⟨_, rfl, rfl, rfl, rfl⟩
 refine BGo.val hT (.slice oa nn oc) q98 q9i q9u (by decide) (l' := [(33, .int .i64 most), (32, .int .i64 m), (31, .slice sa m c), (30, .slice sa m c), (29, .slice oa nn oc), (15, .slice sa m c), (13, .slice oa nn oc), (25, .agg fs), (26, .int .i64 i), (3, .int .i64 most)]) (by simp) (fun e he hc w => ?_) fun T hT => ?_
 ·have b13 := he (13, .slice oa nn oc) (by simp)
  unfold execOp
  constructor
  ·simp [go_sem, qxb, b13]
  ·simp [go_sem, qxb, b13]
 obtain ⟨o166, q99, qxc, q9j, q9v⟩ : ∃ o, R16[6]? = some o ∧ o.op = .call { callee := .builtin .len, args := #[.tmp 34], argTypes := #[47] } ∧ o.dst = some 35 ∧ o.guard = none := ⟨_, rfl, rfl, rfl, rfl⟩
 refine BGo.val hT (.int .i64 nn) q99 q9j q9v (by decide) (l' := [(34, .slice oa nn oc), (33, .int .i64 most), (32, .int .i64 m), (31, .slice sa m c), (30, .slice sa m c), (29, .slice oa nn oc), (15, .slice sa m c), (13, .slice oa nn oc), (25, .agg fs), (26, .int .i64 i), (3, .int .i64 most)]) (by simp) (fun e he hc w => ?_) fun T hT => ?_
 ·have b34 := he (34, .slice oa nn oc) (by simp)
  unfold execOp
  constructor
  ·simp [go_sem, qxc, b34, Builtin.len_]
  ·simp [go_sem, qxc, b34, Builtin.len_]
 obtain ⟨o167, jaa, qxd, hd167, q9w⟩ : ∃ o, R16[7]? = some o ∧ o.op = .binOp .sub 3 (.tmp 33) (.tmp 35) 3 ∧ o.dst = some 36 ∧ o.guard = none := ⟨_, rfl, rfl, rfl, rfl⟩
 refine BGo.val hT (.int .i64 (most - nn)) jaa hd167 q9w (by decide) (l' := [(35, .int .i64 nn), (34, .slice oa nn oc), (33, .int .i64 most), (32, .int .i64 m), (31, .slice sa m c), (30, .slice sa m c), (29, .slice oa nn oc), (15, .slice sa m c), (13, .slice oa nn oc), (25, .agg fs), (26, .int .i64 i), (3, .int .i64 most)]) (by simp) (fun e he hc w => ?_) fun T hT => ?_
 ·have b33 := he (33, .int .i64 most) (by simp)
  have b35 := he (35, .int .i64 nn) (by simp)
  unfold execOp
  constructor
  ·simp [go_sem, qxd, b33, b35, hwrap]
  ·simp [go_sem, qxd, b33, b35, hwrap]
 obtain ⟨o168, jab, qxe, hd168, q9x⟩ : ∃ o, R16[8]? = some o ∧ o.op = .call { callee := .builtin .min, args := #[.tmp 32, .tmp 36], argTypes := #[3, 3] } ∧ o.dst = some 37 ∧ o.guard = none := ⟨_, rfl, rfl, rfl, rfl⟩
 refine BGo.val hT (.int .i64 kk) jab hd168 q9x (by decide) (l' := [(36, .int .i64 (most - nn)), (35, .int .i64 nn), (34, .slice oa nn oc), (33, .int .i64 most), (32, .int .i64 m), (31, .slice sa m c), (30, .slice sa m c), (29, .slice oa nn oc), (15, .slice sa m c), (13, .slice oa nn oc), (25, .agg fs), (26, .int .i64 i), (3, .int .i64 most)]) (by simp) (fun e he hc w => ?_) fun T hT => ?_
 ·have b32 := he (32, .int .i64 m) (by simp)
  have b36 := he (36, .int .i64 (most - nn)) (by simp)
  unfold execOp
  constructor
  ·simp [go_sem, qxe, b32, b36, Builtin.min_, Builtin.min2, hkk]
  ·simp [go_sem, qxe, b32, b36, Builtin.min_, Builtin.min2, hkk]
 obtain ⟨o169, jac, qxf, q9k, q9y⟩ : ∃ o, R16[9]? = some o ∧ o.op = .slice 47 (.tmp 30) none (some (.tmp 37)) none ∧ o.dst = some 38 ∧ o.guard = none := ⟨_, rfl, rfl, rfl, rfl⟩
 refine BGo.val hT (.slice sa kk c) jac q9k q9y (by decide) (l' := [(37, .int .i64 kk), (36, .int .i64 (most - nn)), (35, .int .i64 nn), (34, .slice oa nn oc), (33, .int .i64 most), (32, .int .i64 m), (31, .slice sa m c), (30, .slice sa m c), (29, .slice oa nn oc), (15, .slice sa m c), (13, .slice oa nn oc), (25, .agg fs), (26, .int .i64 i), (3, .int .i64 most)]) (by simp) (fun e he hc w => ?_) fun T hT => ?_
 ·have b30 := he (30, .slice sa m c) (by simp)
  have b37 := he (37, .int .i64 kk) (by simp)
  unfold execOp
  constructor
  ·simp [go_sem, qxf, b30, b37, Instr.sliceAt, Instr.slice, Instr.sliceBounds, Instr.sliceBound, hkc]
  ·simp [go_sem, qxf, b30, b37, Instr.sliceAt, Instr.slice, Instr.sliceBounds, Instr.sliceBound, hkc]
 refine n T (hT.sub ?_)
 simp
end
def qbr (most : Nat) (m : Nat → Nat) (rows : Nat → List Value) : Nat → Nat × List Value
 |0 => (0, [])
 |i + 1 => ((qbr most m rows i).1 + min (m i) (most - (qbr most m rows i).1), (qbr most m rows i).2 ++ (rows i).take (min (m i) (most - (qbr most m rows i).1) * 2))
theorem q3f (most : Nat) (m : Nat → Nat) (rows : Nat → List Value) (i : Nat) : (qbr most m rows i).1 ≤ most := by
 induction i with
 |zero => exact xzl _
 |succ i ih => simp only [qbr]; omega
theorem qku (most : Nat) (m : Nat → Nat) (rows : Nat → List Value) {B : Nat} : ∀ i, (∀ j, j < i → m j ≤ B) → (qbr most m rows i).1 ≤ i * B
 |0, _ => xzl _
 |i + 1, h => by
  have := qku most m rows i fun j hj => h j (by omega)
  have := h i (by omega)
  simp only [qbr]
  rw [Nat.succ_mul]
  omega
section
variable {cs : List Frame} {SB : Blocks} {Z : Frame → World → Prop} {k : List Item} {ρ0 : Rel} {w0 : World} {fs : Array Value} {lv : Nat → Value} {m : Nat → Nat} {rows : Nat → List Value} {most : Nat} {Gb : Blocks}
theorem jbu (hfs : ∀ i, i < 4 → fs[i]? = some (lv i)) (hG : ∀ b, Gb b → b < w0.heap.size ∧ ρ0 b b) (hr : ∀ i, i < 4 → qe0 Gb w0 (lv i) (m i) (rows i)) (hSB : ∀ b, SB b → b < w0.heap.size) (hm : ∀ i, i < 4 → m i ≤ 268435456) (qj2 : most ≤ 9223372036854775807)
  (nx : ∀ T' ov' ρ' w', TlS ρ0 w0 SB (qbr most m rows 4).1 (qbr most m rows 4).2 ov' ρ' w' → TH T' [(13, ov')] → BGo cs (bS.at ⟨T', []⟩ (.code tE :: k)) w' SB Z) :
  ∀ r i, i + r = 4 → ∀ T ov ρ w, TlS ρ0 w0 SB (qbr most m rows i).1 (qbr most m rows i).2 ov ρ w → TH T [(13, ov), (25, .agg fs), (26, .int .i64 i), (3, .int .i64 most)] →
   BGo cs (bS.at ⟨T, []⟩ (.code tL :: .inLoop tL :: .inBlock 2 :: .code tE :: k)) w SB Z := by
 intro r
 induction r with
 |zero =>
  intro i hi T ov ρ w h hT
  obtain rfl : i = 4 := by omega
  refine BGo.sil (q4f hT.1 (hT.2 (26, .int .i64 ((4 : Nat) : Int)) (by simp)) (b := false) (xdf (by decide))) ?_
  refine BGo.sil (Sil.ctl (fun w1 => stepG_exit rfl) (.refl _ _)) ?_
  exact nx _ ov ρ w h ((hT.set (l' := [(13, ov)]) (.bool false) (by decide) (by simp)).sub (by simp))
 |succ r ih =>
  intro i hi T ov ρ w h hT
  have hi4 : i < 4 := by omega
  refine BGo.sil (q4f hT.1 (hT.2 (26, .int .i64 i) (by simp)) (b := true) (xdt (by omega))) ?_
  refine BGo.sil (Sil.ctl (fun w1 => stepG_skip) (Sil.ctl (fun w1 => stepG_seq) (Sil.ctl (fun w1 => stepG_block) (.refl _ _)))) ?_
  have hT1 : TH (T.setIfInBounds 27 (.bool true)) [(13, ov), (25, .agg fs), (26, .int .i64 i), (3, .int .i64 most)] := (hT.set (l' := [(13, ov), (25, .agg fs), (26, .int .i64 i), (3, .int .i64 most)]) (.bool true) (by decide) (by simp)).sub (by simp)
  generalize T.setIfInBounds 27 (.bool true) = T1 at hT1 ⊢
  refine q60 hi4 (hfs i hi4) hT1 fun T2 hT2 => ?_
  have hle := q3f most m rows i
  have hml := hm i hi4
  have hov : ∃ oa oc, ov = .slice oa (qbr most m rows i).1 oc := by
   rcases h.own.2 with ⟨rfl, e⟩ | ⟨g, cap, cur, rfl, _⟩
   ·exact ⟨none, 0, by rw [e]⟩
   ·exact ⟨_, _, rfl⟩
  obtain ⟨oa, oc, hov⟩ := hov
  have hlv : ∃ sa c, lv i = .slice sa (m i) c ∧ m i ≤ c := by
   rcases (hr i hi4).2 with ⟨e, e2⟩ | ⟨g, cap, cur, e, _, _, h1, _⟩
   ·exact ⟨none, 0, by rw [e, e2], by omega⟩
   ·exact ⟨_, _, e, h1⟩
  obtain ⟨sa, c, hlv, hmc⟩ := hlv
  have hkk : ((min (m i) (most - (qbr most m rows i).1) : Nat) : Int) = if (most : Int) - ((qbr most m rows i).1 : Nat) < (m i : Nat) then (most : Int) - ((qbr most m rows i).1 : Nat) else (m i : Nat) := by
   split <;> omega
  refine tCut hlv hov (by omega) (by omega) hkk hmc hT2 fun T3 hT3 => ?_
  have hb := qku most m rows (B := 268435456) i fun j hj => hm j (by omega)
  have hb' : i * 268435456 ≤ 3 * 268435456 := Nat.mul_le_mul_right _ (by omega)
  refine q21 (kk := min (m i) (most - (qbr most m rows i).1)) (l' := [(25, .agg fs), (26, .int .i64 i), (3, .int .i64 most)]) h hG hlv (hr i hi4) (Nat.min_le_left _ _) hSB (by omega) hT3 (by simp) (by simp) (by simp) fun T4 ov' ρ' w' h' hT4 => ?_
  refine BGo.sil (jbw hi4 hT4.1 (hT4.2 (26, .int .i64 i) (by simp))) ?_
  refine ih (i + 1) (by omega) _ ov' ρ' w' h' ?_
  have e1 := hT4.set (l' := [(13, ov'), (25, .agg fs), (3, .int .i64 most)]) (d := 40) (.int .i64 ((i + 1 : Nat) : Int)) (by decide) (by simp)
  exact (e1.set (l' := [(13, ov'), (25, .agg fs), (3, .int .i64 most)]) (d := 26) (.int .i64 ((i + 1 : Nat) : Int)) (by decide) (by simp)).sub (by simp)
end
theorem Same.trans {a b c : World} (h : Same a b) (k : Same b c) : Same a c := ⟨k.heap.trans h.heap, k.os.trans h.os, k.output.trans h.output⟩
theorem Same.at (w : World) (d : Nat) : Same w (w.at d) := ⟨rfl, rfl, rfl⟩
theorem Same.re (w : World) (τ : Tape) : Same w (re w τ) := ⟨rfl, rfl, rfl⟩
def qf (N : Blocks) (kv : List Value) (cs : List Frame) (fr : Frame) (w : World) (cs1 : List Frame) (Z : Frame → World → Prop) : Prop :=
 ∀ (wc : World), Same w wc → ∀ (gs : Array Goroutine) (sl : Option (Nat × Nat)) (t : Trace) (SB : Blocks) (ρ : Rel) (q : Nat → Nat), Co XG fb blG SB ρ gs fr cs wc t q → (∀ b, N b → ¬ SB b) → (∀ v ∈ kv, VR XG.F ρ v v) →
  ∃ (gs' : Array Goroutine) (fr' : Frame) (w' : World) (sl' : Option (Nat × Nat)) (t' : Trace) (SB' : Blocks) (ρ' : Rel) (q' : Nat → Nat), Runs XG.P gs wc sl t gs' w' sl' t' ∧ Z fr' w' ∧ Co XG fb blG SB' ρ' gs' fr' cs1 w' t' q' ∧ (∀ b, N b → ¬ SB' b) ∧ ∀ v ∈ kv, VR XG.F ρ' v v
section
variable {N : Blocks} {kv : List Value} {cs cs1 cs2 : List Frame} {fr jv fr2 : Frame} {w w1 : World} {Z Z' : Frame → World → Prop} {b : Frame} {a : Act} {k : List Item}
theorem qf.same (h : qf N kv cs fr w cs1 Z) (s : Same w w1) : qf N kv cs fr w1 cs1 Z := fun wc hs => h wc (s.trans hs)
theorem qf.done (h : ∀ wc, Same w wc → Z fr wc) : qf N kv cs fr w cs Z := fun wc hs gs sl t SB ρ q hc hN hK => ⟨gs, fr, wc, sl, t, SB, ρ, q, ⟨0, rfl⟩, h wc hs, hc, hN, hK⟩
theorem qf.then (h : qf N kv cs fr w cs1 Z) (k : ∀ jv w1, Z jv w1 → qf N kv cs1 jv w1 cs2 Z') : qf N kv cs fr w cs2 Z' := fun wc hs gs sl t SB ρ q hc hN hK => by
 obtain ⟨gs1, jv, w1, sl1, t1, SB1, ρ1, q1, h1, h2, h3, hN1, hK1⟩ := h wc hs gs sl t SB ρ q hc hN hK
 obtain ⟨gs2, fr2, w2, sl2, t2, SB2, ρ2, q2, h4, h5, h6, h7⟩ := k jv w1 h2 w1 (Same.refl _) gs1 sl1 t1 SB1 ρ1 q1 h3 hN1 hK1
 exact ⟨gs2, fr2, w2, sl2, t2, SB2, ρ2, q2, h1.trans h4, h5, h6, h7⟩
theorem qf.mono (h : qf N kv cs fr w cs1 Z) (k : ∀ jv w1, Z jv w1 → Z' jv w1) : qf N kv cs fr w cs1 Z' := fun wc hs gs sl t SB ρ q hc hN hK =>
 let ⟨gs1, jv, w1, sl1, t1, SB1, ρ1, q1, h1, h2, h3⟩ := h wc hs gs sl t SB ρ q hc hN hK
 ⟨gs1, jv, w1, sl1, t1, SB1, ρ1, q1, h1, k _ _ h2, h3⟩
abbrev FSt (ρ : Rel) (f : Frame) : Prop := FR XG fb true ρ (wt f []) (wt f [])
abbrev FSb (ρ : Rel) (f : Frame) : Prop := blG f.fn = false → FSt ρ f
theorem qf.sil (hs : Sil XG.P fr cs jv cs1) (hf : ∀ ρ, FSb ρ fr → (∀ c ∈ cs, FSb ρ c) → (∀ v ∈ kv, VR XG.F ρ v v) → FSb ρ jv ∧ ∀ c ∈ cs1, FSb ρ c) (n : qf N kv cs1 jv w cs2 Z) : qf N kv cs fr w cs2 Z := fun wc s gs sl t SB ρ q hc hN hK => by
 obtain ⟨hf1, hf2⟩ := hf ρ hc.fr hc.cs hK
 obtain ⟨gs1, d, sl1, t1, q1, h1, h2, h3⟩ := hc.sil (sl := sl) hs hf1 hf2
 obtain ⟨gs2, fr2, w2, sl2, t2, SB2, ρ2, q2, h4, h5, h6⟩ := n (wc.at d) (s.trans (Same.at wc d)) gs1 sl1 t1 SB ρ q1 h3 hN hK
 exact ⟨gs2, fr2, w2, sl2, t2, SB2, ρ2, q2, h1.trans h4, h5, h6⟩
theorem qf.ctl {t1 : List Item} (h : ∀ w, stepG XG.P true (G fr cs) w = .go (G (wt fr t1) cs) w #[]) (n : qf N kv cs (wt fr t1) w cs1 Z) : qf N kv cs fr w cs1 Z :=
 qf.sil (.step h (.refl _ _)) (fun _ h1 h2 _ => ⟨h1, h2⟩) n
theorem qf.seq {x y : Code} (n : qf N kv cs (b.at a (.code x :: .code y :: k)) w cs1 Z) : qf N kv cs (b.at a (.code (.seq x y) :: k)) w cs1 Z := qf.ctl (fun _ => stepG_seq) n
theorem qf.skip (n : qf N kv cs (b.at a k) w cs1 Z) : qf N kv cs (b.at a (.code .skip :: k)) w cs1 Z := qf.ctl (fun _ => stepG_skip) n
theorem qf.cond {c : Operand} {x y : Code} {t : Bool} (h : a.eval c = .bool t) (n : qf N kv cs (b.at a (.code (if t then x else y) :: k)) w cs1 Z) : qf N kv cs (b.at a (.code (.cond c x y) :: k)) w cs1 Z := qf.ctl (fun _ => stepG_cond h) n
theorem qf.block {id : Nat} {c : Code} (n : qf N kv cs (b.at a (.code c :: .inBlock id :: k)) w cs1 Z) : qf N kv cs (b.at a (.code (.block id c) :: k)) w cs1 Z := qf.ctl (fun _ => stepG_block) n
theorem qf.inBlock {id : Nat} (n : qf N kv cs (b.at a k) w cs1 Z) : qf N kv cs (b.at a (.inBlock id :: k)) w cs1 Z := qf.ctl (fun _ => stepG_inBlock) n
theorem qf.loop {c : Code} (n : qf N kv cs (b.at a (.code c :: .inLoop c :: k)) w cs1 Z) : qf N kv cs (b.at a (.code (.loop c) :: k)) w cs1 Z := qf.ctl (fun _ => stepG_loop) n
theorem qf.inLoop {c : Code} (n : qf N kv cs (b.at a (.code c :: .inLoop c :: k)) w cs1 Z) : qf N kv cs (b.at a (.inLoop c :: k)) w cs1 Z := qf.ctl (fun _ => stepG_inLoop) n
theorem qf.exit {id : Nat} {k' : List Item} (h : exitTo id k = some k') (n : qf N kv cs (b.at a k') w cs1 Z) : qf N kv cs (b.at a (.code (.exit id) :: k)) w cs1 Z := qf.ctl (fun _ => stepG_exit h) n
theorem qf.region {id : Nat} {ops : Array Oper} (n : qf N kv cs (b.at a (.inRegion ops (List.range ops.size) :: k)) w cs1 Z) : qf N kv cs (b.at a (.code (.region id ops false) :: k)) w cs1 Z := qf.ctl (fun _ => stepG_region) n
theorem qf.regionEnd {ops : Array Oper} (n : qf N kv cs (b.at a k) w cs1 Z) : qf N kv cs (b.at a (.inRegion ops [] :: k)) w cs1 Z := qf.ctl (fun _ => stepG_region_end) n
theorem FSt.put {ρ : Rel} {t1 t2 : List Item} {d : Option Tmp} {v : Value} (h : FSt ρ (b.at a t1)) (hv : VR XG.F ρ v v) : FSt ρ (b.at (a.put d v) t2) := by
 have ht : jw XG.F ρ a.tmps.toList a.tmps.toList := h.tmps
 cases d with
 |none => exact ⟨rfl, h.same, ht, .nil, h.defers, rfl, h.run, h.kind, h.kind', h.round⟩
 |some d => exact ⟨rfl, h.same, ht.qtf d hv, .nil, h.defers, rfl, h.run, h.kind, h.kind', h.round⟩
theorem qf.unwanted {ops : Array Oper} {i : Nat} {td : List Nat} {o : Oper} (ho : ops[i]? = some o) (hw : Region.wanted o (yielded ops a.tmps) = false) (n : qf N kv cs (b.at (a.put o.dst undef) (.inRegion ops td :: k)) w cs1 Z) : qf N kv cs (b.at a (.inRegion ops (i :: td) :: k)) w cs1 Z :=
 qf.sil (.step (fun _ => stepG_unwanted ho hw) (.refl _ _)) (fun _ h1 h2 _ => ⟨fun hb => FSt.put (h1 hb) qeq, h2⟩) n
theorem qf.code {c : Code} {Q : Exit → Act → World → Prop} (hbl : blG b.fn = false) (hc : codeOk XG.P XG.P fb true c = true) (hpl : Plain k Q) (hQS : ∀ e a w wc, Same w wc → Q e a w → Q e a wc) (hp : ∀ wc, Same w wc → c.wp XG.P Q a wc)
  (n : ∀ e a' w' fr', Q e a' w' → qh9 b k e a' fr' → qf N kv cs fr' w' cs1 Z) : qf N kv cs (b.at a (.code c :: k)) w cs1 Z := fun wc s gs sl t SB ρ q hco hN hK => by
 obtain ⟨gs1, jv, w1, sl1, t1, q1, ρ1, h1, _, hle, ⟨e, a', h2, h3⟩, h4⟩ := hco.code (sl := sl) rfl qga hbl hc hpl hQS fun τ _ => hp (re wc τ) (s.trans (Same.re wc τ))
 obtain ⟨gs2, fr2, w2, sl2, t2, SB2, ρ2, q2, h5, h6, h7⟩ := n e a' w1 jv h2 h3 w1 (Same.refl _) gs1 sl1 t1 SB ρ1 q1 h4 hN fun v hv => (hK v hv).mono hle
 exact ⟨gs2, fr2, w2, sl2, t2, SB2, ρ2, q2, h1.trans h5, h6, h7⟩
theorem qf.op {ops : Array Oper} {i : Nat} {td : List Nat} {o : Oper} {Q : Act → World → Prop} (hbl : blG b.fn = false) (id : Nat) (ho : ops[i]? = some o) (hok : qa0 XG.P XG.P fb true (bare o) = true) (hwant : Region.wanted o (yielded ops a.tmps) = true) (hQS : ∀ a w wc, Same w wc → Q a w → Q a wc)
  (hp : ∀ wc, Same w wc → (Code.region id #[bare o] false).wp XG.P (fun e a' w' => e = .normal ∧ Q a' w') a wc)
  (n : ∀ a' w', Q a' w' → qf N kv cs (b.at a' (.inRegion ops td :: k)) w' cs1 Z) : qf N kv cs (b.at a (.inRegion ops (i :: td) :: k)) w cs1 Z := fun wc s gs sl t SB ρ q hco hN hK => by
 obtain ⟨gs1, jv, w1, sl1, t1, q1, ρ1, h1, _, hle, ⟨a', h2, rfl⟩, h4⟩ := hco.op (sl := sl) rfl qga hbl ho hok hwant hQS (id := id) fun τ _ => hp (re wc τ) (s.trans (Same.re wc τ))
 obtain ⟨gs2, fr2, w2, sl2, t2, SB2, ρ2, q2, h5, h6, h7⟩ := n a' w1 h2 w1 (Same.refl _) gs1 sl1 t1 SB ρ1 q1 h4 hN fun v hv => (hK v hv).mono hle
 exact ⟨gs2, fr2, w2, sl2, t2, SB2, ρ2, q2, h1.trans h5, h6, h7⟩
def Leaves (fr : Frame) (v : Value) : Prop := fr.mode = .returning ∧ fr.defers = [] ∧ fr.kind = .normal ∧ ∃ fn, XG.P.funcs[fr.fn]? = some fn ∧ ∀ w, (results fn fr.tmps).runT XG.P w #[] = (.ok v w, #[])
def Ret (f : FuncId) (R : Value → World → Prop) (fr : Frame) (w : World) : Prop :=
 fr.fn = f ∧ ∃ v, Leaves fr v ∧ (∀ ρ, jw XG.F ρ fr.tmps.toList fr.tmps.toList → VR XG.F ρ v v) ∧ R v w
def qk2 (N : Blocks) (kv : List Value) (f : FuncId) (args : Array Value) (w : World) (R : Value → World → Prop) : Prop := ∀ cs, qf N kv cs (Frame.enter XG.P f args .normal) w cs (Ret f R)
def yu (N : Blocks) (kv : List Value) (f : FuncId) (args : Array Value) (w : World) (R : Value → World → Prop) : Prop := ∀ c cs, qf N kv (c :: cs) (Frame.enter XG.P f args .normal) w cs (fun fr w' => ∃ v, fr = c.finish v ∧ R v w')
theorem yu.mono {f : FuncId} {args : Array Value} {R R' : Value → World → Prop} (h : yu N kv f args w R) (k : ∀ v w, R v w → R' v w) : yu N kv f args w R' :=
 fun c cs => (h c cs).mono fun _ _ ⟨v, h1, h2⟩ => ⟨v, h1, k _ _ h2⟩
theorem qjx (P : Program) (f : FuncId) (args : Array Value) : (Frame.enter P f args .normal).fn = f := rfl
theorem FSt.enter {ρ : Rel} {f : FuncId} {fn : Func} {args : Array Value} (hf : XG.P.funcs[f]? = some fn) (ha : jw XG.F ρ args.toList args.toList) : FSt ρ (Frame.enter XG.P f args .normal) := by
 show FR XG fb true ρ (wt (Frame.enter XG.P f args .normal) []) (wt (Frame.enter XG.P f args .normal) [])
 unfold Frame.enter
 simp only [hf]
 refine ⟨rfl, ⟨fn, hf, hf⟩, ?_, .nil, .nil, rfl, .inl rfl, rfl, rfl, .inl ⟨rfl, rfl⟩⟩
 refine ha.qeb ?_
 rw [Array.toList_replicate]
 exact jw.replicate qeq _
theorem FSt.finish {ρ : Rel} {f : Frame} {v : Value} (h : FSt ρ f) (hv : VR XG.F ρ v v) : FSt ρ (f.finish v) := by
 have key : ∀ (tm : Array Value) (td : List Item), jw XG.F ρ tm.toList tm.toList → FSt ρ { f with tmps := tm, todo := td } := fun tm td ht => ⟨rfl, h.same, ht, .nil, h.defers, rfl, h.run, h.kind, h.kind', h.round⟩
 unfold Frame.finish
 split
 ·refine key _ _ ?_
  split
  ·exact h.tmps.qtf _ hv
  ·exact h.tmps
 ·exact key _ _ h.tmps
 ·exact key _ _ h.tmps
 ·exact key _ _ h.tmps
 ·exact key _ _ (.cons hv .nil)
 ·exact h
theorem Frame.qfo (c : Frame) (v : Value) : (c.finish v).fn = c.fn := by
 unfold Frame.finish
 split <;> first | rfl | (split <;> rfl)
theorem qcp {fr c : Frame} {v : Value} {w : World} (h : Leaves fr v) : stepG XG.P true (G fr (c :: cs)) w = .go (G (c.finish v) cs) w #[] := by
 obtain ⟨hm, hd, hk, fn, hf, hr⟩ := h
 rw [zm _ _ _ _ _ hm]
 obtain ⟨fn0, qs0, q4g, qg3, qo5, qoy, ro0⟩ := fr
 obtain rfl : qg3 = [] := hd
 obtain rfl : qo5 = .returning := hm
 obtain rfl : qoy = .normal := hk
 have hf : XG.P.funcs[fn0]? = some fn := hf
 have hr : (results fn qs0).runT XG.P w #[] = (.ok v w, #[]) := hr w
 unfold unwind
 dsimp only
 rw [hf]
 dsimp only
 rw [hr]
 rfl
theorem qk2.calls {f : FuncId} {args : Array Value} {R : Value → World → Prop} (hbl : blG f = false) (hS : ∀ v w wc, Same w wc → R v w → R v wc) (h : qk2 N kv f args w R) : yu N kv f args w R := fun c cs => by
 refine (h (c :: cs)).then ?_
 rintro jv w1 ⟨hfn, v, hl, hv, hr⟩
 exact qf.sil (.step (fun w => qcp hl) (.refl _ _)) (fun ρ h1 h2 _ => ⟨fun hb => FSt.finish (h2 c (.head _) (by rw [← Frame.qfo c v]; exact hb)) (hv ρ (h1 (by rw [hfn]; exact hbl)).tmps), fun c hc => h2 c (.tail _ hc)⟩) (qf.done fun wc s => ⟨v, rfl, hS _ _ _ s hr⟩)
theorem qf.call {ops : Array Oper} {i : Nat} {td : List Nat} {o : Oper} {f : FuncId} {fn : Func} {args : Array Value} {R : Value → World → Prop} (ho : ops[i]? = some o) (hw : Region.wanted o (yielded ops a.tmps) = true) (hk : b.kind ≠ .early)
  (ev : ∀ w, (execOp a.eval o).run XG.P w = .ok (.enter f args) w ∧ (execOp a.eval o).events XG.P w #[] = #[]) (hf : XG.P.funcs[f]? = some fn)
  (hargs : ∀ ρ, FSb ρ (b.at a (.inRegion ops (i :: td) :: k)) → (∀ v ∈ kv, VR XG.F ρ v v) → blG f = false → jw XG.F ρ args.toList args.toList)
  (hcall : yu N kv f args w R) (n : ∀ v w', R v w' → qf N kv cs (b.at (a.put o.dst v) (.inRegion ops td :: k)) w' cs1 Z) : qf N kv cs (b.at a (.inRegion ops (i :: td) :: k)) w cs1 Z := by
 have hs : ∀ w, stepG XG.P true (G (b.at a (.inRegion ops (i :: td) :: k)) cs) w = .go (G (Frame.enter XG.P f args .normal) (b.at a (.inRegion ops (i :: td) :: k) :: cs)) w #[] := fun w => by
  rw [stepG_enter ho hw hk (ev w).1]
  unfold listed
  rw [(ev w).2, seen_none]
 refine qf.sil (.step hs (.refl _ _)) (fun ρ h1 h2 hk => ⟨fun hb => FSt.enter hf (hargs ρ h1 hk (by rw [← qjx XG.P f args]; exact hb)), fun c hc => ?_⟩) ((hcall _ _).then ?_)
 ·rcases List.mem_cons.1 hc with rfl | hc
  ·exact h1
  ·exact h2 c hc
 rintro jv w1 ⟨v, rfl, hr⟩
 rw [Frame.finish_at, ho]
 exact n v w1 hr
theorem qf.ret (h : ∀ wc, Same w wc → Z { b.at a (.code .ret :: k) with mode := .returning } wc) : qf N kv cs (b.at a (.code .ret :: k)) w cs Z :=
 qf.sil (.step (fun _ => stepG_ret') (.refl _ _)) (fun _ h1 h2 _ => ⟨fun hb => let h1 := h1 hb; ⟨rfl, h1.same, h1.tmps, .nil, h1.defers, rfl, .inr rfl, h1.kind, h1.kind', h1.round⟩, h2⟩) (qf.done h)
end
end
end Go.Proofs.YtkpekiajdlolnabGreat.Ph
namespace Go.Proofs.YtkpekiajdlolnabGreat.Sim
open Go Go.Conc
def dg (ρ : Rel) : Rel := fun a b => a = b ∧ ∃ x, ρ x b
section
variable {F : FuncId → Prop} {ρ : Rel}
theorem qg4 {a b : Nat} (h : ρ a b) : dg ρ b b := ⟨rfl, a, h⟩
mutual
theorem VR.right : ∀ {v v' : Value}, VR F ρ v v' → VR F (dg ρ) v' v'
 |_, _, .bool b => .bool b
 |_, _, .int k n => .int k n
 |_, _, .string s => .string s
 |_, _, .qai => .qai
 |_, _, .ptr r => .ptr (qg4 r)
 |_, _, .jk n c => .jk n c
 |_, _, .slice r => .slice (qg4 r)
 |_, _, .qa9 => .qa9
 |_, _, .map r => .map (qg4 r)
 |_, _, .func f r => .func f r.right
 |_, _, .yield r => .yield (qg4 r)
 |_, _, .nilFunc => .nilFunc
 |_, _, .agg r => .agg r.right
 |_, _, .tuple r => .tuple r.right
theorem jw.right : ∀ {l l' : List Value}, jw F ρ l l' → jw F (dg ρ) l' l'
 |_, _, .nil => .nil
 |_, _, .cons a b => .cons a.right b.right
end
theorem ER.right {e e' : MapEntry} (h : ER F ρ e e') : ER F (dg ρ) e' e' := ⟨h.key.right, h.val.right, rfl⟩
theorem EsR.right : ∀ {l l' : List MapEntry}, EsR F ρ l l' → EsR F (dg ρ) l' l'
 |_, _, .nil => .nil
 |_, _, .cons a b => .cons a.right b.right
theorem DsR.right : ∀ {l l' : List Deferred}, DsR ρ l l' → DsR (dg ρ) l' l'
 |_, _, .nil => .nil
 |_, _, .cons a b => .cons (qg4 a) b.right
theorem qfx.right {x x' : Option Nat} (h : qfx ρ x x') : qfx (dg ρ) x' x' := by
 rcases h with ⟨_, h⟩ | ⟨l, l', _, h, r⟩
 ·exact .inl ⟨h, h⟩
 ·exact .inr ⟨l', l', h, h, qg4 r⟩
variable {X : Cx} {Fb : FuncId → Bool} {wr : Bool}
theorem OR.right {o o' : Obj} (h : OR X ρ o o') : OR X (dg ρ) o' o' := by
 cases h with
 |cells a b => exact .cells a.right (.inl rfl)
 |map a => exact .map a.right
 |stringIter s p => exact .stringIter s p
 |qaq a b c => exact .qaq a b c
 |mapIter r => exact .mapIter (qg4 r)
 |loop a b c d e g => exact .loop a.right (qg4 b) c d e g
 |number l r => exact .number l (qg4 r)
 |xw => exact .xw
 |deferred => exact .deferred
theorem WR.right {w w' : World} (h : WR X ρ w w') (hs : ∀ a, ¬ X.Sh a) : WR X (dg ρ) w' w' :=
 ⟨fun h1 h2 => h1.1.symm.trans h2.1, fun h1 h2 => h1.1.trans h2.1.symm, fun {a b} ⟨e, x, hx⟩ => by
  subst e
  obtain ⟨o, o', _, k2, k3⟩ := h.heap hx
  exact ⟨o', o', k2, k2, k3.right⟩, fun _ _ => rfl, fun a ha => (hs a ha).elim⟩
end
end Go.Proofs.YtkpekiajdlolnabGreat.Sim
namespace Go.Proofs.YtkpekiajdlolnabGreat.Ph
section
open Go Go.Conc Go.ConcN Sim
section
variable {X : Cx} {Fb : FuncId → Bool} {wr : Bool} {ρ : Rel}
theorem qoj {f f' : Frame} (h : FR X Fb wr ρ (wt f []) (wt f' [])) : FR X Fb wr (dg ρ) (wt f' []) (wt f' []) :=
 ⟨rfl, let ⟨g, h1, h2⟩ := h.same; ⟨g, by rw [h.fn]; exact h1, by rw [h.fn]; exact h2⟩, h.tmps.right, .nil, h.defers.right, rfl, by have := h.run; rw [← h.mode] at this; exact this, h.kind', h.kind', h.round.right⟩
end
theorem q6f (ρ : Rel) : rng (dg ρ) = rng ρ := by
 funext b
 exact propext ⟨fun ⟨_, _, h⟩ => h, fun ⟨a, h⟩ => ⟨b, rfl, a, h⟩⟩
theorem qyn (ρ : Rel) : own XG ρ = rng ρ := by
 funext b
 exact propext ⟨fun ⟨a, h, _⟩ => ⟨a, h⟩, fun ⟨a, h⟩ => ⟨a, h, fun h => h⟩⟩
theorem Co.diag {SB : Blocks} {ρ : Rel} {gs : Array Goroutine} {fr : Frame} {cs : List Frame} {w : World} {t : Trace} {q : Nat → Nat} (h : Co XG fb blG SB ρ gs fr cs w t q) : Co XG fb blG SB (dg ρ) gs fr cs w t q :=
 ⟨h.g0, h.leavers, h.past, by rw [qyn, q6f]; have := h.foot; rwa [qyn] at this, fun hb => qoj (h.fr hb), fun c hc hb => qoj (h.cs c hc hb), h.wr.right fun _ h => h, h.nb⟩
end
section
open Go.Conc Go.ConcN Go.RowKit Go.Conc.Lib Go.ConcR.Gen Go.ConcN.Gen Go Sim
open Go.ConcR (KK wgBlock WgAt stA smA rd wr mk Payload Aside2 DC0 ofEvent_cell)
structure qct (cl : Nat) (db mb : Nat → Nat) (es : Nat → Array MapEntry) (ck : Nat → Nat) (w : World) : Prop where
 d : ∀ i, i < 4 → w.cell? ⟨cl, 1 + i * 3 + 1, none⟩ = some (.pointer (some ⟨db i, 0, none⟩))
 b : ∀ i, i < 4 → w.heap[db i]? = some (.cells #[.map (some (mb i))] 142 (0, 0))
 m : ∀ i, i < 4 → w.heap[mb i]? = some (.map (es i) (ck i))
section
variable {cl : Nat} {db mb : Nat → Nat} {es : Nat → Array MapEntry} {ck : Nat → Nat} {w w1 : World}
theorem qct.to (h : qct cl db mb es ck w) (kc : w1.heap[cl]? = w.heap[cl]?) (kd : ∀ i, i < 4 → w1.heap[db i]? = w.heap[db i]?) (km : ∀ i, i < 4 → w1.heap[mb i]? = w.heap[mb i]?) : qct cl db mb es ck w1 :=
 ⟨fun i hi => (vz (a := ⟨cl, 1 + i * 3 + 1, none⟩) kc).trans (h.d i hi), fun i hi => (kd i hi).trans (h.b i hi), fun i hi => (km i hi).trans (h.m i hi)⟩
theorem qct.ltc (h : qct cl db mb es ck w) : cl < w.heap.size := by
 have := h.d 0 (by decide)
 unfold World.cell? at this
 cases e : w.heap[cl]? with
 |none => simp [e] at this
 |some o => exact (zx e).1
theorem qct.ltd (h : qct cl db mb es ck w) (i : Nat) (hi : i < 4) : db i < w.heap.size := (zx (h.b i hi)).1
theorem qct.ltm (h : qct cl db mb es ck w) (i : Nat) (hi : i < 4) : mb i < w.heap.size := (zx (h.m i hi)).1
theorem qct.old (h : qct cl db mb es ck w) (k : ∀ b, b < w.heap.size → w1.heap[b]? = w.heap[b]?) : qct cl db mb es ck w1 :=
 h.to (k _ h.ltc) (fun i hi => k _ (h.ltd i hi)) (fun i hi => k _ (h.ltm i hi))
end
section
variable {cl : Nat} {db mb : Nat → Nat} {es : Nat → Array MapEntry} {ck : Nat → Nat} {s t : ByteArray} {m : Nat → Nat} {rows : Nat → List Value} {cb ab tb C Wg : Nat} {F : Blocks} {w w1 : World}
structure FxS (cl : Nat) (db mb : Nat → Nat) (es : Nat → Array MapEntry) (ck : Nat → Nat) (cb ab tb : Nat) (s t : ByteArray) (F : Blocks) (w : World) : Prop where
 clu : qct cl db mb es ck w
 c : w.cell? ⟨cb, 0, none⟩ = some (.pointer (some ⟨cl, 0, none⟩))
 f : w.cell? ⟨ab, 0, none⟩ = some (.string s)
 t : w.cell? ⟨tb, 0, none⟩ = some (.string t)
 Fc : F cb
 Ff : F ab
 Ft : F tb
 Fl : F cl
 Fd : ∀ i, i < 4 → F (db i)
 Fm : ∀ i, i < 4 → F (mb i)
theorem FxS.ext (h : FxS cl db mb es ck cb ab tb s t F w) (e : Ext F w w1) : FxS cl db mb es ck cb ab tb s t F w1 :=
 ⟨h.clu.to (e.keep _ h.Fl) (fun i hi => e.keep _ (h.Fd i hi)) (fun i hi => e.keep _ (h.Fm i hi)), (vz (a := ⟨cb, 0, none⟩) (e.keep _ h.Fc)).trans h.c, (vz (a := ⟨ab, 0, none⟩) (e.keep _ h.Ff)).trans h.f, (vz (a := ⟨tb, 0, none⟩) (e.keep _ h.Ft)).trans h.t, h.Fc, h.Ff, h.Ft, h.Fl, h.Fd, h.Fm⟩
theorem FxS.sub {F' : Blocks} (h : FxS cl db mb es ck cb ab tb s t F w) (k : ∀ b, F b → F' b) : FxS cl db mb es ck cb ab tb s t F' w := ⟨h.clu, h.c, h.f, h.t, k _ h.Fc, k _ h.Ff, k _ h.Ft, k _ h.Fl, fun i hi => k _ (h.Fd i hi), fun i hi => k _ (h.Fm i hi)⟩
theorem qsy {Fp : FuncId → Prop} {ρ : Rel} : ∀ {l l' : List Value}, jw Fp ρ l l' → (∀ x ∈ l, ∃ s, x = .string s) → l' = l
 |_, _, .nil, _ => rfl
 |_, _, .cons a b, h => by
  obtain ⟨s, rfl⟩ := h _ (.head _)
  cases a
  rw [qsy b fun x hx => h x (.tail _ hx)]
theorem q2t {Sh : Nat → Prop} {ρ : Rel} {v v' : Value} {n : Nat} {xs : List Value} {w w' : World} (h : qe0 (fun _ => True) w v n xs) (hv : VR (fun f => fbP f = true) ρ v v') (hw : WN (XW Sh) ρ w w') : qe0 (rng ρ) w' v' n xs := by
 refine ⟨h.1, ?_⟩
 rcases h.2 with ⟨rfl, e⟩ | ⟨g, cap, cur, rfl, _, h2, h3, h4, h5, h6⟩
 ·cases hv
  exact .inl ⟨rfl, e⟩
 ·cases hv with
  | @slice b b' o sp n c hr =>
   obtain ⟨τ, _, k⟩ := hw
   obtain ⟨o1, o2, k1, k2, k3⟩ := k.heap hr
   have k1 : w.heap[g]? = some o1 := k1
   rw [h2] at k1
   cases k1
   cases k3 with
   | @cells c c' e z z' hc hz =>
    have hcc : c' = cur := by
     have := qsy hc h6
     exact Array.ext' this
    subst hcc
    have hz' : z' = (0, 0) := hz.elim id id
    subst hz'
    exact .inr ⟨b', cap, c', rfl, ⟨_, hr⟩, k2, h3, h4, h5, h6⟩
theorem qrl (hCW : C ≠ Wg) (hes : ∀ i, i < 4 → ∀ (F : FuncId → Prop) ρ, EsR F ρ (es i).toList (es i).toList)
  (hcon : ∀ i, i < 4 → ∀ wl, wl.heap[db i]? = some (.cells #[.map (some (mb i))] 142 (0, 1)) → wl.heap[mb i]? = some (.map (es i) (ck i)) → Calls Tryz.prog 56 #[.pointer (some ⟨db i, 0, none⟩), .string s, .string t] wl fun | .returned v, w' => qe0 (fun _ => True) w' v (m i) (rows i) | _, _ => False)
  (i : Nat) (hi : i < 4) (F : Blocks) (w : World) (kb : Nat) (hx : FxS cl db mb es ck cb ab tb s t F w) (hF : FOk F (fun _ => False) w) (hk : F kb) (hc : w.cell? ⟨kb, 0, none⟩ = some (.int .i64 i)) :
  Script Tryz.prog link.tWg Wg C 4 (fun i F v w => qe0 F w v (m i) (rows i)) i F (born Tryz.prog (qg0 Wg cb kb ab tb C)) w := by
 refine q3h (jb := fun i F v w => qe0 F w v (m i) (rows i)) (cl := cl) (dp := .pointer (some ⟨db i, 0, none⟩)) (s := .string s) (t := .string t) hi hCW (fun F v w w1 h e => h.ext e.keep) (fun F v w h => ?_) ⟨hc, hx.c, hx.f, hx.t, hx.clu.d i hi, hk, hx.Fc, hx.Ff, hx.Ft, hx.Fl⟩ hF fun c cs w1 e => ?_
 ·rcases h.2 with ⟨rfl, _⟩ | ⟨g, cap, cur, rfl, _⟩
  ·exact ⟨none, 0, 0, rfl⟩
  ·exact ⟨_, _, _, rfl⟩
 ·have hx1 := hx.ext e
  have hne : db i ≠ mb i := fun e => by
   have h1 := hx1.clu.b i hi
   rw [e, hx1.clu.m i hi] at h1
   cases h1
  exact qyr (R := fun v w => qe0 (fun _ => True) w v (m i) (rows i)) (jb := fun F v w => qe0 F w v (m i) (rows i)) (hF.ext e) (hx.Fd i hi) (hx.Fm i hi) hne (hx1.clu.b i hi) (hx1.clu.m i hi) (hes i hi) (hcon i hi) (fun v w τ h => h.ext fun _ _ => rfl) (fun ρ v v' w w' h1 h2 h3 => q2t h1 h2 h3)
   (fun F F' v w h k => ⟨h.1, h.2.imp id fun ⟨g, cap, cur, h1, h2, h3⟩ => ⟨g, cap, cur, h1, k g h2, h3⟩⟩) c cs
end
noncomputable def P0 : Code := match qdk with | .seq a _ => a | _ => .skip
noncomputable def P1 : Code := match qdk with | .seq _ (.seq a _) => a | _ => .skip
noncomputable def P3 : Code := match qdk with | .seq _ (.seq _ (.seq a _)) => a | _ => .skip
theorem qph : qdk = .seq P0 (.seq P1 (.seq P3 (.seq (.region 4 R4 false) qff))) := rfl
noncomputable def R5 : Array Oper := match qff with | .seq (.seq a _) _ => rg a | _ => #[]
theorem qur : qff = .seq (.seq (.region 5 R5 false) (.block 0 (.loop sL))) sR := rfl
theorem ja4 : codeOk XG.P XG.P fb true P0 = true := by kernel_rfl
theorem ja5 : codeOk XG.P XG.P fb true P1 = true := by kernel_rfl
theorem okP3 : codeOk XG.P XG.P fb true P3 = true := by kernel_rfl
def S0 (cl : Nat) (s t : ByteArray) (most : Int) (n : Nat) (x10 x16 x17 : Value) : Array Value :=
 #[.pointer (some ⟨cl, 0, none⟩), .string s, .string t, .int .i64 most, .pointer (some ⟨n, 0, none⟩), .pointer (some ⟨n + 1, 0, none⟩), .pointer (some ⟨n + 1 + 1, 0, none⟩), undef, .slice none 0 0, .int .i64 0, x10, undef, undef, undef, undef, undef, x16, x17, undef, undef, undef, undef, undef, undef, undef, undef, undef, undef, undef, undef, undef, undef, undef, undef, undef, undef, undef, undef, undef, undef, undef, undef]
structure HE (h : Array Obj) (w w' : World) : Prop where
 heap : w'.heap = h
 os : w'.os = w.os
 output : w'.output = w.output
theorem HE.same {h : Array Obj} {w w1 w2 : World} (k : HE h w w1) (s : Same w1 w2) : HE h w w2 := ⟨s.heap.trans k.heap, s.os.trans k.os, s.output.trans k.output⟩
def H0 (cl : Nat) (s t : ByteArray) (w : World) : Array Obj := ((w.heap.push (.cells #[.pointer (some ⟨cl, 0, none⟩)] 40)).push (.cells #[.string s] 9)).push (.cells #[.string t] 9)
def H1 (cl : Nat) (s t : ByteArray) (w : World) : Array Obj := (H0 cl s t w).push (.cells #[.slice none 0 0, .slice none 0 0, .slice none 0 0, .slice none 0 0] 112)
theorem qiv {cl : Nat} {s t : ByteArray} {w : World} : (H0 cl s t w).size = w.heap.size + 3 := by simp [H0]
theorem q0d {cl : Nat} {s t : ByteArray} {w : World} : (H1 cl s t w).size = w.heap.size + 4 := by simp [H1, qiv]
section
variable {cl : Nat} {s t : ByteArray} {most : Int} {w : World} {Q : Exit → Act → World → Prop} {x10 x16 x17 : Value} {n : Nat}
theorem q4d (h : Q .normal ⟨S0 cl s t most w.heap.size undef undef undef, []⟩ (((w.alloc (.cells #[.pointer (some ⟨cl, 0, none⟩)] 40)).alloc (.cells #[.string s] 9)).alloc (.cells #[.string t] 9))) :
  Code.wp Tryz.prog P0 Q ⟨#[.pointer (some ⟨cl, 0, none⟩), .string s, .string t, .int .i64 most, undef, undef, undef, undef, undef, undef, undef, undef, undef, undef, undef, undef, undef, undef, undef, undef, undef, undef, undef, undef, undef, undef, undef, undef, undef, undef, undef, undef, undef, undef, undef, undef, undef, undef, undef, undef, undef, undef], []⟩ w := by
 unfold P0 qdk
 unfold S0 at h
 simp only [Tryz.f27, Option.getD]
 go_wp2
 exact h
theorem jbf (h0 : 0 ≤ most) (h : Q .normal ⟨S0 cl s t most n undef (.int .i64 most) (.bool false), []⟩ w) : Code.wp Tryz.prog P1 Q ⟨S0 cl s t most n undef undef undef, []⟩ w := by
 unfold P1 qdk
 unfold S0 at *
 simp only [Tryz.f27, Option.getD]
 have hd : decide (most < 0) = false := xdf (by omega)
 clear h0
 go_wp2
 exact h
theorem jbg (h : Q .normal ⟨S0 cl s t most n (.pointer (some ⟨w.heap.size, 0, none⟩)) (.int .i64 most) (.bool false), []⟩ (w.alloc (.cells #[.slice none 0 0, .slice none 0 0, .slice none 0 0, .slice none 0 0] 112))) :
  Code.wp Tryz.prog P3 Q ⟨S0 cl s t most n undef (.int .i64 most) (.bool false), []⟩ w := by
 unfold P3 qdk
 unfold S0 at *
 simp only [Tryz.f27, Option.getD]
 go_wp2
 exact h
end
section
variable {N : Blocks} {kv : List Value} {cl : Nat} {s t : ByteArray} {most : Int} {w : World} {cs cs1 : List Frame} {Z : Frame → World → Prop}
theorem qut (h0 : 0 ≤ most) (h1 : most ≤ 9223372036854775807)
  (nx : ∀ w1, HE (H1 cl s t w) w w1 → qf N kv cs (bS.at ⟨S0 cl s t most w.heap.size (.pointer (some ⟨w.heap.size + 3, 0, none⟩)) (.int .i64 most) (.bool false), []⟩ (.inRegion R4 [0] :: [.code qff])) w1 cs1 Z) :
  qf N kv cs (Frame.enter XG.P fS #[.pointer (some ⟨cl, 0, none⟩), .string s, .string t, .int .i64 most] .normal) w cs1 Z := by
 have he : Frame.enter XG.P fS #[.pointer (some ⟨cl, 0, none⟩), .string s, .string t, .int .i64 most] .normal = bS.at ⟨#[.pointer (some ⟨cl, 0, none⟩), .string s, .string t, .int .i64 most, undef, undef, undef, undef, undef, undef, undef, undef, undef, undef, undef, undef, undef, undef, undef, undef, undef, undef, undef, undef, undef, undef, undef, undef, undef, undef, undef, undef, undef, undef, undef, undef, undef, undef, undef, undef, undef, undef], []⟩ [.code qdk] := by
  show Frame.enter Tryz.prog fS _ .normal = _
  rw [enter_at _ Tryz.func27 (show Tryz.f27.body = some qdk from rfl)]
  have hn : Tryz.f27.ntmps = 42 := rfl
  rw [hn]
  simp only [List.size_toArray, List.length_cons, List.length_nil, Nat.reduceAdd, Nat.reduceSub, Array.replicate_succ, Array.replicate_zero, List.push_toArray, List.append_toArray, List.nil_append, List.cons_append]
  rfl
 rw [he, qph]
 refine qf.seq ?_
 refine qf.code rfl (Q := fun e a w' => e = .normal ∧ a = ⟨S0 cl s t most w.heap.size undef undef undef, []⟩ ∧ HE (H0 cl s t w) w w') ja4 (by rintro e a w ⟨rfl, _⟩; trivial) (fun e a w wc s h => ⟨h.1, h.2.1, h.2.2.same s⟩) (fun wc hs => ?_) ?_
 ·refine q4d ⟨rfl, ?_, ?_⟩
  ·rw [hs.heap]
  ·refine ⟨?_, hs.os, hs.output⟩
   show ((wc.heap.push _).push _).push _ = _
   rw [hs.heap]; rfl
 rintro _ _ w1 fr ⟨rfl, rfl, hw1⟩ rfl
 refine qf.seq ?_
 refine qf.code rfl (Q := fun e a w' => e = .normal ∧ a = ⟨S0 cl s t most w.heap.size undef (.int .i64 most) (.bool false), []⟩ ∧ HE (H0 cl s t w) w w') ja5 (by rintro e a w ⟨rfl, _⟩; trivial) (fun e a w wc s h => ⟨h.1, h.2.1, h.2.2.same s⟩) (fun wc hs => ?_) ?_
 ·exact jbf h0 ⟨rfl, rfl, hw1.same hs⟩
 rintro _ _ w2 fr ⟨rfl, rfl, hw2⟩ rfl
 refine qf.seq ?_
 refine qf.code rfl (Q := fun e a w' => e = .normal ∧ a = ⟨S0 cl s t most w.heap.size (.pointer (some ⟨w.heap.size + 3, 0, none⟩)) (.int .i64 most) (.bool false), []⟩ ∧ HE (H1 cl s t w) w w') okP3 (by rintro e a w ⟨rfl, _⟩; trivial) (fun e a w wc s h => ⟨h.1, h.2.1, h.2.2.same s⟩) (fun wc hs => ?_) ?_
 ·have hz : wc.heap.size = w.heap.size + 3 := by rw [hs.heap, hw2.heap, qiv]
  refine jbg ⟨rfl, ?_, ?_⟩
  ·rw [hz]
  ·refine ⟨?_, hs.os.trans hw2.os, hs.output.trans hw2.output⟩
   show wc.heap.push _ = _
   rw [hs.heap, hw2.heap]; rfl
 rintro _ _ w3 fr ⟨rfl, rfl, hw3⟩ rfl
 refine qf.seq ?_
 refine qf.region ?_
 exact nx w3 hw3
end
theorem qkw {F : FuncId → Prop} {ρ : Rel} : ∀ {l : List Value}, (∀ x ∈ l, VR F ρ x x) → jw F ρ l l
 | [], _ => .nil
 |_ :: _, h => .cons (h _ (.head _)) (qkw fun x hx => h x (.tail _ hx))
theorem q83 {SB : Blocks} {B C i : Nat} (hS : ¬ SB C) (hB : C < B) : EvZ SB B ⟨.cell ⟨C, i, none⟩, false, false⟩ :=
 qhu (F := fun b => b = C) (O := fun _ => False) ⟨rfl, rfl, fun h => by cases h⟩ (fun b h => by rw [h]; exact hS) (fun b h => by rw [h]; exact hB)
section
variable {SB : Blocks} {Z : Frame → World → Prop} {k : List Item} {cs : List Frame} {ρ0 : Rel} {w0 : World} {lv : Nat → Value} {m : Nat → Nat} {rows : Nat → List Value} {most : Nat} {Gb : Blocks} {C : Nat} {T : Array Value}
theorem tAll (hT3 : T.getD 3 undef = .int .i64 most) (hT10 : T.getD 10 undef = .pointer (some ⟨C, 0, none⟩)) (hsz : T.size = 42) (hc : ∀ i, i < 4 → w0.cell? ⟨C, i, none⟩ = some (lv i)) (hC : C < w0.heap.size) (hCS : ¬ SB C)
  (hw : WR XG ρ0 w0 w0) (hnb : NB w0) (hap : ∀ b, rng ρ0 b → ¬ SB b)
  (hG : ∀ b, Gb b → b < w0.heap.size ∧ ρ0 b b) (hr : ∀ i, i < 4 → qe0 Gb w0 (lv i) (m i) (rows i)) (hSB : ∀ b, SB b → b < w0.heap.size) (hm : ∀ i, i < 4 → m i ≤ 268435456) (qj2 : most ≤ 9223372036854775807)
  (hZ : ∀ T' ov' ρ' w', TlS ρ0 w0 SB (qbr most m rows 4).1 (qbr most m rows 4).2 ov' ρ' w' → T'.size = 42 → T'.getD 8 undef = ov' → T'.getD 9 undef = .int .i64 0 → ∀ d, Z { bS.at ⟨T', []⟩ (.code .ret :: k) with mode := .returning } (w'.at d)) :
  BGo cs (bS.at ⟨T, []⟩ (.code sT :: k)) w0 SB Z := by
 refine BGo.sil jby ?_
 have hTH : TH (T.setIfInBounds 13 (.slice none 0 0)) [(13, .slice none 0 0), (10, .pointer (some ⟨C, 0, none⟩)), (3, .int .i64 most)] :=
  TH.set (l := [(10, .pointer (some ⟨C, 0, none⟩)), (3, .int .i64 most)]) ⟨hsz, fun p hp => by
   rcases List.mem_cons.1 hp with rfl | hp
   ·exact hT10
   ·rcases List.mem_cons.1 hp with rfl | hp
    ·exact hT3
    ·cases hp⟩ _ (by decide) (by simp)
 generalize T.setIfInBounds 13 (.slice none 0 0) = T1 at hTH ⊢
 obtain ⟨o, ho, hop, hd, hg⟩ : ∃ o, R13[0]? = some o ∧ o.op = .load 112 (.tmp 10) ∧ o.dst = some 25 ∧ o.guard = none := ⟨_, rfl, rfl, rfl, rfl⟩
 have hwant : Region.wanted o (yielded R13 (Act.mk T1 []).tmps) = true := by unfold Region.wanted; rw [hg]
 have b10 : (Act.mk T1 []).eval (.tmp 10) = .pointer (some ⟨C, 0, none⟩) := hTH.2 (10, .pointer (some ⟨C, 0, none⟩)) (by simp)
 have ev : ∀ d, (execOp (Act.mk T1 []).eval o).run Tryz.prog (w0.at d) = .ok (.value (.agg #[lv 0, lv 1, lv 2, lv 3])) (w0.at d) ∧ (execOp (Act.mk T1 []).eval o).events Tryz.prog (w0.at d) #[] = #[⟨.cell ⟨C, 0, none⟩, false, false⟩, ⟨.cell ⟨C, 1, none⟩, false, false⟩, ⟨.cell ⟨C, 2, none⟩, false, false⟩, ⟨.cell ⟨C, 3, none⟩, false, false⟩] := fun d => by
  have h0 : (w0.at d).cell? ⟨C, 0, none⟩ = some (lv 0) := hc 0 (by decide)
  have h1 : (w0.at d).cell? ⟨C, 1, none⟩ = some (lv 1) := hc 1 (by decide)
  have h2 : (w0.at d).cell? ⟨C, 2, none⟩ = some (lv 2) := hc 2 (by decide)
  have h3 : (w0.at d).cell? ⟨C, 3, none⟩ = some (lv 3) := hc 3 (by decide)
  generalize (Act.mk T1 []).eval = e at *
  generalize w0.at d = w at *
  unfold execOp
  constructor
  ·simp [go_sem, hop, b10, h0, h1, h2, h3]
  ·simp [go_sem, hop, b10, h0, h1, h2, h3]
 refine BGo.one rfl fun d => ⟨_, w0.at d, _, stepG_value ho hwant (by decide) (ev d).1, jy _, fun e he => ?_, ?_⟩
 ·have := mem_listed he
  rw [(ev d).2] at this
  simp at this
  rcases this with rfl | rfl | rfl | rfl <;> exact q83 hCS hC
 rw [hd]
 have hT2 : TH (T1.setIfInBounds 25 (.agg #[lv 0, lv 1, lv 2, lv 3])) [(25, .agg #[lv 0, lv 1, lv 2, lv 3]), (13, .slice none 0 0), (3, .int .i64 most)] := hTH.set _ (by decide) (by simp)
 change BGo cs (bS.at ⟨T1.setIfInBounds 25 (.agg #[lv 0, lv 1, lv 2, lv 3]), []⟩ (.inRegion R13 [1] :: _)) _ _ _
 generalize T1.setIfInBounds 25 (.agg #[lv 0, lv 1, lv 2, lv 3]) = T2 at hT2 ⊢
 obtain ⟨o1, ho1, hop1, hd1, hg1⟩ : ∃ o, R13[1]? = some o ∧ o.op = .move (.const (.int .i64 0)) ∧ o.dst = some 26 ∧ o.guard = none := ⟨_, rfl, rfl, rfl, rfl⟩
 refine BGo.val hT2 (.int .i64 ((0 : Nat) : Int)) ho1 hd1 hg1 (by decide) (l' := [(25, .agg #[lv 0, lv 1, lv 2, lv 3]), (13, .slice none 0 0), (3, .int .i64 most)]) (by simp) (fun e he hc w => ?_) fun T3 hT3 => ?_
 ·have bc := hc (.int .i64 0)
  unfold execOp
  constructor
  ·simp [go_sem, hop1, bc]
  ·simp [go_sem, hop1, bc]
 refine BGo.sil (Sil.ctl (fun w1 => stepG_region_end) (Sil.ctl (fun w1 => stepG_block) (Sil.ctl (fun w1 => stepG_loop) (.refl _ _)))) ?_
 have hw0 : TlS ρ0 w0 SB (qbr most m rows 0).1 (qbr most m rows 0).2 (.slice none 0 0) ρ0 (w0.at d) :=
  TlS.at ⟨Rel.le_refl ρ0, hw, .jk _ _, hnb, World.ownsRow_nil _ _ _ _, fun _ _ => rfl, jy _, hap, rfl, rfl⟩ d
 refine jbu (fs := #[lv 0, lv 1, lv 2, lv 3]) (lv := lv) (fun i hi => ?_) hG hr hSB hm qj2 (fun T' ov' ρ' w' h' hT' => ?_) 4 0 rfl T3 _ ρ0 _ hw0 (hT3.sub (by simp))
 ·match i, hi with
  |0, _ => rfl
  |1, _ => rfl
  |2, _ => rfl
  |3, _ => rfl
 ·refine BGo.sil (tEnd hT'.1 (hT'.2 (13, ov') (by simp))) (BGo.done fun d => ?_)
  refine hZ _ ov' ρ' w' h' (by simp [hT'.1]) ?_ ?_ d
  ·rw [qx (by decide)]
   exact zh (by simp [hT'.1])
  ·exact zh (by simp [hT'.1])
end
theorem qpd {w : World} {T : Array Value} : (results Tryz.f27 T).runT Tryz.prog w #[] = (.ok (.tuple #[T.getD 8 undef, T.getD 9 undef]) w, #[]) := by
 have e : Tryz.f27.results = #[.tmp 8, .tmp 9] := rfl
 simp [results, e, go_sem]
section
variable {N : Blocks} {kv : List Value} {cl : Nat} {db mb : Nat → Nat} {es : Nat → Array MapEntry} {ck : Nat → Nat} {s t : ByteArray} {m : Nat → Nat} {rows : Nat → List Value} {w : World} {most : Nat}
theorem qe8 {Fp : FuncId → Prop} {ρ : Rel} {T : Array Value} {j b o : Nat} (h : jw Fp ρ T.toList T.toList) (e : T.getD j undef = .pointer (some ⟨b, o, none⟩)) : ρ b b := by
 have := jw.qjm h j
 rw [e] at this
 cases this with
 |ptr h => exact h
theorem qrm (q1k : qct cl db mb es ck w) (hes : ∀ i, i < 4 → ∀ (F : FuncId → Prop) ρ, EsR F ρ (es i).toList (es i).toList)
  (hcon : ∀ i, i < 4 → ∀ wl, wl.heap[db i]? = some (.cells #[.map (some (mb i))] 142 (0, 1)) → wl.heap[mb i]? = some (.map (es i) (ck i)) → Calls Tryz.prog 56 #[.pointer (some ⟨db i, 0, none⟩), .string s, .string t] wl fun | .returned v, w' => qe0 (fun _ => True) w' v (m i) (rows i) | _, _ => False)
  (hm : ∀ i, i < 4 → m i ≤ 268435456) (qj2 : most ≤ 9223372036854775807) (hN : ∀ b, N b → b < w.heap.size) :
  yu N kv fS #[.pointer (some ⟨cl, 0, none⟩), .string s, .string t, .int .i64 most] w fun v w' =>
   ∃ ov, v = .tuple #[ov, .int .i64 0] ∧ w'.ownsRow w.heap.size 74 2 ov (qbr most m rows 4).1 (qbr most m rows 4).2 ∧ (∀ b, b < w.heap.size → w'.heap[b]? = w.heap[b]?) ∧ w.heap.size ≤ w'.heap.size ∧ w'.os = w.os ∧ w'.output = w.output := by
 intro c cs
 refine qut (most := (most : Int)) (by omega) (by omega) fun w3 hw3 => ?_
 intro wc hs gs sl t0 SB ρ' q hco0 hNS hK0
 have hco := hco0.diag
 have hK : ∀ v ∈ kv, VR XG.F (dg ρ') v v := fun v hv => (hK0 v hv).right
 have hdg : ∀ a b, dg ρ' a b → a = b := fun a b h => h.1
 generalize dg ρ' = ρ at hco hdg hK
 have hwc : wc.heap = H1 cl s t w := hs.heap.trans hw3.heap
 have hzc : wc.heap.size = w.heap.size + 4 := by rw [hwc, q0d]
 have old : ∀ b, b < w.heap.size → wc.heap[b]? = w.heap[b]? := fun b hb => by
  rw [hwc]
  unfold H1 H0
  rw [Array.getElem?_push, if_neg (by simp; omega), Array.getElem?_push, if_neg (by simp; omega), Array.getElem?_push, if_neg (by simp; omega), Array.getElem?_push, if_neg (by omega)]
 have q0v : qct cl db mb es ck wc := q1k.old old
 have hcb : wc.heap[w.heap.size]? = some (.cells #[.pointer (some ⟨cl, 0, none⟩)] 40) := by
  rw [hwc]; unfold H1 H0
  rw [Array.getElem?_push, if_neg (by simp; omega), Array.getElem?_push, if_neg (by simp; omega), Array.getElem?_push, if_neg (by simp), Array.getElem?_push, if_pos rfl]
 have hab : wc.heap[w.heap.size + 1]? = some (.cells #[.string s] 9) := by
  rw [hwc]; unfold H1 H0
  rw [Array.getElem?_push, if_neg (by simp), Array.getElem?_push, if_neg (by simp), Array.getElem?_push, if_pos (by simp)]
 have htb : wc.heap[w.heap.size + 1 + 1]? = some (.cells #[.string t] 9) := by
  rw [hwc]; unfold H1 H0
  rw [Array.getElem?_push, if_neg (by simp), Array.getElem?_push, if_pos (by simp)]
 have hCb : wc.heap[w.heap.size + 3]? = some (.cells #[.slice none 0 0, .slice none 0 0, .slice none 0 0, .slice none 0 0] 112) := by
  rw [hwc]; unfold H1
  rw [Array.getElem?_push, if_pos (by rw [qiv])]
 -- what is reached
 have tm : jw XG.F ρ (S0 cl s t most w.heap.size (.pointer (some ⟨w.heap.size + 3, 0, none⟩)) (.int .i64 most) (.bool false)).toList (S0 cl s t most w.heap.size (.pointer (some ⟨w.heap.size + 3, 0, none⟩)) (.int .i64 most) (.bool false)).toList := (hco.fr rfl).tmps
 have rcl : ρ cl cl := qe8 (j := 0) tm rfl
 have rcb : ρ w.heap.size w.heap.size := qe8 (j := 4) tm rfl
 have rab : ρ (w.heap.size + 1) (w.heap.size + 1) := qe8 (j := 5) tm rfl
 have rtb : ρ (w.heap.size + 1 + 1) (w.heap.size + 1 + 1) := qe8 (j := 6) tm rfl
 have rC : ρ (w.heap.size + 3) (w.heap.size + 3) := qe8 (j := 10) tm rfl
 have rdb : ∀ i, i < 4 → ρ (db i) (db i) := fun i hi => by
  obtain ⟨v', h1, h2⟩ := hco.wr.cell (a := ⟨cl, 1 + i * 3 + 1, none⟩) (a' := ⟨cl, 1 + i * 3 + 1, none⟩) ⟨rcl, rfl, rfl⟩ (q0v.d i hi)
  rw [q0v.d i hi] at h1
  cases h1
  cases h2 with | ptr h => exact h
 have rmb : ∀ i, i < 4 → ρ (mb i) (mb i) := fun i hi => by
  have hcell : wc.cell? ⟨db i, 0, none⟩ = some (.map (some (mb i))) := by simp [World.cell?, q0v.b i hi]
  obtain ⟨v', h1, h2⟩ := hco.wr.cell (a := ⟨db i, 0, none⟩) (a' := ⟨db i, 0, none⟩) ⟨rdb i hi, rfl, rfl⟩ hcell
  rw [hcell] at h1
  cases h1
  cases h2 with | map h => exact h
 have qt3 : ∀ b, rng ρ b → b < wc.heap.size := fun b ⟨a, h⟩ => (hco.wr.bound h).2
 -- the group
 obtain ⟨gs1, d1, sl1, t1, q1, h1, z1, g1, L1, p1, hWg, hfresh⟩ := qqq (SB := SB) (sl := sl) hco.g0 hco.leavers hco.past
 rw [hzc] at hWg hfresh
 -- to the loop's head
 let Ta : Array Value := (S0 cl s t most w.heap.size (.pointer (some ⟨w.heap.size + 3, 0, none⟩)) (.int .i64 most) (.bool false)).setIfInBounds 11 (.pointer (some ⟨w.heap.size + 4, 0, none⟩))
 have g1 : gs1[0]? = some (G (bS.at ⟨Ta, []⟩ (.inRegion R4 [] :: [.code qff])) (c :: cs)) := by rw [hzc] at g1; exact g1
 let w4 : World := qdn (wc.at d1)
 have q13 : ∀ b, b < wc.heap.size → w4.heap[b]? = wc.heap[b]? := fun b hb => by
  show (wc.heap.push _)[b]? = _
  rw [Array.getElem?_push, if_neg (by omega)]
 have hz4 : w4.heap.size = w.heap.size + 5 := by
  show (wc.heap.push _).size = _
  rw [Array.size_push, hzc]
 have hz4' : (qdn (wc.at d1)).heap.size = w.heap.size + 5 := hz4
 let F : Blocks := fun b => rng ρ b ∧ b ≠ w.heap.size + 3
 have qm5 : FOk F (fun _ => False) w4 := ⟨fun b hb => by have := qt3 b hb.1; omega, fun _ h => h.elim⟩
 have hlt := q1k.ltc
 have qwa : ∀ {b : Nat} {v : Value} {ty : TypeId}, b < wc.heap.size → wc.heap[b]? = some (.cells #[v] ty) → w4.cell? ⟨b, 0, none⟩ = some v := fun {b v ty} hb e => by
  simp [World.cell?, q13 b hb, e]
 have hFx : FxS cl db mb es ck w.heap.size (w.heap.size + 1) (w.heap.size + 1 + 1) s t F w4 :=
  ⟨q0v.old q13, qwa (by omega) hcb, qwa (by omega) hab, qwa (by omega) htb, ⟨⟨_, rcb⟩, by omega⟩, ⟨⟨_, rab⟩, by omega⟩, ⟨⟨_, rtb⟩, by omega⟩, ⟨⟨_, rcl⟩, by omega⟩, fun i hi => ⟨⟨_, rdb i hi⟩, by have := q1k.ltd i hi; omega⟩, fun i hi => ⟨⟨_, rmb i hi⟩, by have := q1k.ltm i hi; omega⟩⟩
 have hnW : ¬ F (w.heap.size + 4) := fun h => by have := qt3 _ h.1; omega
 have hH : ScH (.int .i64 most) w.heap.size (w.heap.size + 1) (w.heap.size + 1 + 1) (w.heap.size + 3) (w.heap.size + 4) 0 (Ta.setIfInBounds 18 (.int .i64 ((0 : Nat) : Int))) := ⟨rfl, rfl, rfl, rfl, rfl, rfl, rfl, rfl⟩
 have hWG : WG Tryz.prog true (Scr Tryz.prog link.tWg (w.heap.size + 4) (w.heap.size + 3) 4 (fun i F v w => qe0 F w v (m i) (rows i)) (KS (.int .i64 most) w.heap.size (w.heap.size + 1) (w.heap.size + 1 + 1) (w.heap.size + 3) (w.heap.size + 4) [] (c :: cs)) 4) F (fun _ => False) (G (bS.at ⟨Ta, []⟩ (.inRegion R4 [] :: [.code qff])) (c :: cs)) w4 := by
  refine WG.ctl rfl qm5 (fun w1 => stepG_region_end) ?_
  rw [qur]
  refine WG.ctl rfl qm5 (fun w1 => stepG_seq) ?_
  refine WG.ctl rfl qm5 (fun w1 => stepG_seq) ?_
  refine WG.ctl rfl qm5 (fun w1 => stepG_region) ?_
  change WG _ _ _ _ _ (G (bS.at ⟨Ta, []⟩ (.inRegion R5 [0] :: _)) (c :: cs)) w4
  obtain ⟨o, ho, hop, hd, hg⟩ : ∃ o, R5[0]? = some o ∧ o.op = .move (.const (.int .i64 0)) ∧ o.dst = some 18 ∧ o.guard = none := ⟨_, rfl, rfl, rfl, rfl⟩
  have hwant : Region.wanted o (yielded R5 (Act.mk Ta []).tmps) = true := by unfold Region.wanted; rw [hg]
  refine WG.value (.int .i64 ((0 : Nat) : Int)) qm5 ho hwant (by decide) (fun w1 _ => ?_) ?_
  ·have bc : (Act.mk Ta []).eval (.const (.int .i64 0)) = .int .i64 0 := rfl
   generalize (Act.mk Ta []).eval = e at *
   unfold execOp
   constructor
   ·simp [go_sem, hop, bc]
   ·simp [go_sem, hop, bc]
  rw [hd]
  change WG _ _ _ _ _ (G (bS.at ⟨Ta.setIfInBounds 18 (.int .i64 ((0 : Nat) : Int)), []⟩ (.inRegion R5 [] :: _)) (c :: cs)) w4
  refine WG.ctl rfl qm5 (fun w1 => stepG_region_end) ?_
  refine WG.ctl rfl qm5 (fun w1 => stepG_block) ?_
  refine WG.ctl rfl qm5 (fun w1 => stepG_loop) ?_
  exact starter (Fx := FxS cl db mb es ck w.heap.size (w.heap.size + 1) (w.heap.size + 1 + 1) s t) (fun F w w1 h e => h.ext e) (fun F F' w h k => h.sub k)
   (fun i hi F w kb hx hF hk hc => qrl (m := m) (rows := rows) (by omega) hes hcon i hi F w kb hx hF hk hc) (fun F O w T hT hF _ _ => jbp hT hF) 4 0 rfl _ F (fun _ => False) w4 hH qm5 hFx hnW (by omega)
 have hpay : PayAt (w.heap.size + 3) 4 w4 := ⟨_, (q13 _ (by omega)).trans hCb, rfl⟩
 have ql3 := hco.foot
 obtain ⟨N3, gs3, a3, w5, sl3, t3, D, FM, q3, h3, hJ⟩ := phase (P := Tryz.prog) (ty := link.tWg) (Wg := w.heap.size + 4) (C := w.heap.size + 3) (n := 4) (SB := SB) (jb := fun i F v w => qe0 F w v (m i) (rows i)) (L0 := w.heap.size + 3) (sl := sl1) (fun i F v w w1 h e => h.ext e.keep) (by decide) g1 L1 p1 hfresh hWG hWg hpay
  (fun b hb => ⟨by have := qt3 b hb.1; omega, by have := qt3 b hb.1; omega, hb.2, ql3.apart b hb.1⟩) (fun _ h => h.elim) (by omega) (by omega) (fun b hb => by have := ql3.low b hb; omega) (by omega) (fun h => by have := ql3.low _ h; omega) (fun h => ql3.apart _ ⟨_, rC⟩ h) (by omega) (jy _) (fun _ h => h.elim)
 obtain ⟨N4, gs4, T, d4, sl4, t4, q4, h4, z4, g4, hT, L4, p4⟩ := qp1 (sl := sl3) hJ
 -- the tail
 let w6 : World := w5.at d4
 have qxk : ∀ b, b < w.heap.size + 3 → w6.heap[b]? = wc.heap[b]? := fun b hb => (hJ.kept.keep b hb).trans (q13 b (by omega))
 let Gb : Blocks := fun b => ∃ i n cap, i < 4 ∧ (D i).val = .slice (some ⟨b, 0, none⟩) n cap
 let ρ0 : Rel := fun a b => ρ a b ∨ (a = b ∧ Gb b)
 have hρ0 : ρ.le ρ0 := fun _ _ h => .inl h
 have qw2 : ∀ a b, ρ0 a b → a = b := fun a b h => h.elim (hdg a b) (·.1)
 have hrow : ∀ i, i < 4 → qe0 Gb w6 (D i).val (m i) (rows i) := fun i hi => by
  have h := (hJ.res i hi).1
  refine ⟨h.1, h.2.imp id ?_⟩
  rintro ⟨g, cap, cur, k1, k2, k3⟩
  exact ⟨g, cap, cur, k1, ⟨i, _, _, hi, k1⟩, k3⟩
 have hGb : ∀ b, Gb b → ∃ cur, w6.heap[b]? = some (.cells cur 74 (0, 0)) ∧ (∀ x ∈ cur.toList, ∃ s, x = .string s) ∧ b < w6.heap.size ∧ b ≠ w.heap.size + 4 ∧ ¬ SB b := by
  rintro b ⟨i, n, cap, hi, e⟩
  have h := (hJ.res i hi).1
  rcases h.2 with ⟨e2, _⟩ | ⟨g, cap2, cur, e2, k2, k3, _, _, _, k6⟩
  ·rw [e] at e2; cases e2
  ·rw [e] at e2
   cases e2
   have := hJ.sep.wF i hi b k2
   exact ⟨cur, k3, k6, this.1, this.2.1, this.2.2.2⟩
 have hcell : ∀ i, i < 4 → w6.cell? ⟨w.heap.size + 3, i, none⟩ = some (D i).val := fun i hi => (hJ.res i hi).2
 obtain ⟨pc, hpc, hps⟩ := hJ.pay
 have hpc : w6.heap[w.heap.size + 3]? = some (.cells pc Payload.ety) := hpc
 have hval : ∀ i, i < 4 → VR XG.F ρ0 (D i).val (D i).val := fun i hi => by
  rcases (hrow i hi).2 with ⟨e, _⟩ | ⟨g, cap, cur, e, k1, _⟩
  ·rw [e]; exact .jk _ _
  ·rw [e]; exact .slice (.inr ⟨rfl, k1⟩)
 have hwr : WR XG ρ0 w6 w6 := by
  refine ⟨fun h1 h2 => (qw2 _ _ h1).symm.trans (qw2 _ _ h2), fun h1 h2 => (qw2 _ _ h1).trans (qw2 _ _ h2).symm, fun {a b} hab => ?_, fun _ _ => rfl, fun a h => h.elim⟩
  obtain rfl := qw2 a b hab
  rcases hab with hab | ⟨_, hb⟩
  ·by_cases e : a = w.heap.size + 3
   ·subst e
    refine ⟨_, _, hpc, hpc, .cells (qkw fun x hx => ?_) (.inl rfl)⟩
    obtain ⟨j, hj, e⟩ := List.mem_iff_getElem.1 hx
    have hj4 : j < 4 := by simpa [hps] using hj
    have := hcell j hj4
    simp only [World.cell?, hpc] at this
    have hx2 : pc[j]? = some x := by rw [← e]; simp
    rw [hx2] at this
    cases this
    exact hval j hj4
   ·obtain ⟨o, o', k1, k2, k3⟩ := hco.wr.heap hab
    have hlt2 : a < w.heap.size + 3 := by have := qt3 a ⟨_, hab⟩; omega
    exact ⟨o, o', (qxk a hlt2).trans k1, (qxk a hlt2).trans k2, k3.mono hρ0⟩
  ·obtain ⟨cur, k1, k2, _⟩ := hGb a hb
   refine ⟨_, _, k1, k1, .cells (qkw fun x hx => ?_) (.inl rfl)⟩
   obtain ⟨s, rfl⟩ := k2 x hx
   exact .string s
 have hz6 : w.heap.size + 5 ≤ w6.heap.size := by
  have := hJ.sep.lW
  show _ ≤ w5.heap.size
  omega
 have hnb4 : NB w4 := NB.push (w := wc.at d1) (fun _ _ e => by cases e) hco.nb
 have hap : ∀ b, rng ρ0 b → ¬ (SB b ∨ b = w.heap.size + 4) := by
  rintro b ⟨a, hab | ⟨_, hb⟩⟩ hs
  ·rcases hs with hs | hs
   ·exact ql3.apart b ⟨a, hab⟩ hs
   ·have := qt3 b ⟨a, hab⟩; omega
  ·obtain ⟨_, _, _, _, k1, k2⟩ := hGb b hb
   rcases hs with hs | hs
   ·exact k2 hs
   ·exact k1 hs
 have hSB : ∀ b, (SB b ∨ b = w.heap.size + 4) → b < w6.heap.size := by
  rintro b (hb | hb)
  ·have := ql3.low b hb; omega
  ·omega
 have hbgo := tAll (SB := fun b => SB b ∨ b = w.heap.size + 4) (k := []) (cs := c :: cs) (ρ0 := ρ0) (w0 := w6) (lv := fun i => (D i).val) (m := m) (rows := rows) (most := most) (Gb := Gb) (C := w.heap.size + 3) (T := T.setIfInBounds 24 (.tuple #[]))
  (Z := fun fr w7 => ∃ ov ρ7, TlS ρ0 w6 (fun b => SB b ∨ b = w.heap.size + 4) (qbr most m rows 4).1 (qbr most m rows 4).2 ov ρ7 w7 ∧ Leaves fr (.tuple #[ov, .int .i64 0]))
  ((qx (by decide)).trans hT.t3) ((qx (by decide)).trans hT.t10) (by simp [hT.size]) hcell (by omega) (fun h => hap _ ⟨_, .inl rC⟩ h) hwr (hJ.kept.nb hnb4) hap (fun b hb => ⟨(let ⟨_, _, _, k, _⟩ := hGb b hb; k), .inr ⟨rfl, hb⟩⟩) hrow hSB hm qj2
  (fun T' ov' ρ7 w7 h7 hs7 h8 h9 d => ⟨ov', ρ7, h7.at d, ⟨rfl, rfl, rfl, _, Tryz.func27, fun w => by
   have := qpd (w := w) (T := T')
   rw [h8, h9] at this
   exact this⟩⟩)
 obtain ⟨gs7, fr7, w7, sl7, t7, q7, h7, z7, ⟨ov, ρ7, hTl, hlv⟩, g7, L7, p7⟩ := hbgo d4 gs4 sl4 t4 q4 g4 L4 p4
 have hret : Sil Tryz.prog fr7 (c :: cs) (c.finish (.tuple #[ov, .int .i64 0])) cs := .step (fun w => qcp hlv) (.refl _ _)
 obtain ⟨gs8, d8, sl8, t8, q8, h8, z8, g8, L8, p8⟩ := hret.runs (sl := sl7) g7 L7 p7
 have hle : ρ.le ρ7 := Rel.le_trans hρ0 hTl.le
 have q89 := hTl.at d8
 refine ⟨gs8, _, w7.at d8, sl8, t8, _, ρ7, q8, ?_, ⟨_, rfl, ov, rfl, ?_, fun b hb => ?_, ?_⟩, ⟨g8, L8, p8, ⟨hTl.apart, fun b hb => xll (hSB b hb) hTl.size, fun b ⟨a, h, _⟩ => ⟨a, h⟩, fun b ⟨a, h⟩ => (q89.wr.bound h).2⟩, ?_, fun c' hc' hb => (hco.cs c' (.tail _ hc') hb).mono hle, q89.wr, hTl.nb⟩, fun b hb hs => hs.elim (hNS b hb) fun e => by have := hN b hb; omega, fun v hv => (hK v hv).mono hle⟩
 ·exact (h1.trans ⟨N3, h3⟩).trans ((show Runs Tryz.prog gs3 w5 sl3 t3 gs4 (w5.at d4) sl4 t4 from ⟨N4, h4⟩).trans (h7.trans h8))
 ·have := hTl.own
  refine ⟨this.1, this.2.imp id ?_⟩
  rintro ⟨g, cap, cur, k1, k2, k3⟩
  exact ⟨g, cap, cur, k1, by omega, k3⟩
 ·exact (hTl.keep b (by omega)).trans ((qxk b (by omega)).trans (old b hb))
 ·refine ⟨?_, (hTl.os.trans hJ.kept.os).trans (hs.os.trans hw3.os), (hTl.output.trans hJ.kept.output).trans (hs.output.trans hw3.output)⟩
  have := hTl.size
  show _ ≤ w7.heap.size
  omega
 ·intro hb
  exact FSt.finish ((hco.cs c (.head _) (by rw [← Frame.qfo c]; exact hb)).mono hle) (.tuple (.cons hTl.vr (.cons (.int _ _) .nil)))
end
end
section
open Go Go.Conc Go.ConcN Sim
theorem qrp {fr : Frame} {v : Value} {w : World} (h : Leaves fr v) (hi : XG.P.inits.idxOf? fr.fn = none) : stepG XG.P true (G fr []) w = .ended (.done v) w #[] := by
 obtain ⟨hm, hd, hk, fn, hf, hr⟩ := h
 rw [zm _ _ _ _ _ hm]
 obtain ⟨fn0, qs0, q4g, qg3, qo5, qoy, ro0⟩ := fr
 obtain rfl : qg3 = [] := hd
 obtain rfl : qo5 = .returning := hm
 obtain rfl : qoy = .normal := hk
 have hf : XG.P.funcs[fn0]? = some fn := hf
 have hi : XG.P.inits.idxOf? fn0 = none := hi
 have hr : (results fn qs0).runT XG.P w #[] = (.ok v w, #[]) := hr w
 unfold unwind
 dsimp only
 rw [hf]
 dsimp only
 rw [hr]
 simp [doReturn, hi, GStep.after, seen]
theorem quc (W : World) : vo (fun _ => False) W 1 #[] :=
 ⟨⟨0, fun said => by rintro ⟨i, j, _, ⟨a, b, ha, _⟩, _⟩; simp [Trace.act?] at ha, fun i a ha => by simp [touchAt, Trace.act?] at ha, fun i g hg => by simp [Trace.g?] at hg, rfl, by simp⟩, by simp, fun i a ha => by simp [touchAt, Trace.act?] at ha,
  fun i op x hi => by simp at hi, by simp⟩
theorem q1i {fr : Frame} {W : World} {ρ : Rel} {Post : Value → World → Prop} {f : FuncId} {R : Value → World → Prop} {N : Blocks} {kv : List Value} (h : qf N kv [] fr W [] (Ret f R)) (hfr : FSb ρ fr) (hwr : WR XG ρ W W) (hkv : ∀ v ∈ kv, VR XG.F ρ v v) (hi : XG.P.inits.idxOf? f = none) (hp : ∀ v w wc, Same w wc → R v w → Post v wc) :
  ∃ M last o w' t', runNT XG.P (M + 1) (solo (G fr []) W) #[] = (.ended o w', t') ∧ runN XG.P M (solo (G fr []) W) = .next last ∧ step XG.P last = .ended o w' ∧ Conc.Good XG.P Post last o w' t' := by
 have hco : Co XG fb blG (fun _ => False) ρ #[G fr []] fr [] W #[] (fun _ => 0) :=
  ⟨rfl, leavers_one _ _, quc W, ⟨fun _ _ h => h, fun _ h => h.elim, fun b ⟨a, h, _⟩ => ⟨a, h⟩, fun b ⟨a, h⟩ => (hwr.bound h).2⟩, hfr, (fun c hc => by cases hc), hwr, trivial⟩
 obtain ⟨gs', fr', w', sl', t', SB', ρ', q', ⟨N, hr⟩, ⟨hfn, v, hl, hv, hR⟩, hc, _, _⟩ := h W (Same.refl _) _ none _ _ _ _ hco (fun _ _ h => h) hkv
 obtain ⟨B, hP⟩ := hc.past.past
 obtain ⟨N2, last, o, w2, t2, k1, k2, k3, k4⟩ := beside_ends (P := XG.P) (D := fun _ _ _ => False) (Post := Post) (n := 0) (w := w') (sl := sl') (fun _ _ _ h => h.elim) hc.g0 hc.leavers hP (fun w1 hw1 => by
  obtain ⟨d, e⟩ := hw1
  subst e
  exact ⟨rfl, v, #[], qrp hl (by rw [hfn]; exact hi), by simp, hp v _ _ (Same.at w' d) hR⟩)
 have hrun : runNT XG.P (N + (N2 + 1)) (solo (G fr []) W) #[] = (.ended o w2, t2) := runNT_trans N hr k1
 have e1 : runN XG.P N (solo (G fr []) W) = .next (crowd gs' w' sl') := by
  rw [← runNT_fst _ _ _ #[]]
  exact congrArg Prod.fst hr
 refine ⟨N + N2, last, o, w2, t2, hrun, ?_, k3, k4⟩
 have : runNT XG.P (N + N2) (solo (G fr []) W) #[] = runNT XG.P N2 (crowd gs' w' sl') t' := runNT_trans N hr rfl
 rw [← runNT_fst _ _ _ #[], this, runNT_fst]
 exact k2
theorem qri {P : Program} {w : World} {v : Value} {a : Addr} (h : w.cell? a = some v) (es : Array Event) : (Go.load a).runT P w es = (.ok v w, es.push ⟨.cell a, false, false⟩) := by
 unfold Go.load
 simp only [Sem.runT, h]
 rfl
theorem qfc {P : Program} {w : World} {a : Addr} : ∀ (l : List Value) (i : Nat) (acc : Array Value) (es : Array Event), (∀ j v, l[j]? = some v → w.cell? (a.add (i + j)) = some v) →
  ∃ es1, (loadCellsFrom a i l.length acc).runT P w es = (.ok (acc ++ l.toArray) w, es ++ es1) ∧ ∀ e ∈ es1, ∃ j, e = ⟨.cell (a.add j), false, false⟩
 | [], i, acc, es, _ => ⟨#[], by simp [loadCellsFrom, Pure.pure, Sem.runT], by simp⟩
 |v :: l, i, acc, es, h => by
  obtain ⟨es1, h1, h2⟩ := qfc (P := P) l (i + 1) (acc.push v) (es.push ⟨.cell (a.add i), false, false⟩) fun j x hj => by
   have := h (j + 1) x (by simpa using hj)
   rwa [show i + (j + 1) = i + 1 + j by omega] at this
  refine ⟨#[⟨.cell (a.add i), false, false⟩] ++ es1, ?_, fun e he => ?_⟩
  ·have h0 := h 0 v rfl
   rw [Nat.add_zero] at h0
   show ((Go.load (a.add i)).bind fun v => loadCellsFrom a (i + 1) l.length (acc.push v)).runT P w es = _
   rw [Sem.runT_bind', qri h0]
   simp only []
   rw [h1]
   have e1 : acc.push v ++ l.toArray = acc ++ (v :: l).toArray := by apply Array.ext'; simp
   have e2 : es.push (⟨.cell (a.add i), false, false⟩ : Event) ++ es1 = es ++ (#[⟨.cell (a.add i), false, false⟩] ++ es1) := by apply Array.ext'; simp
   rw [e1, e2]
  ·rcases Array.mem_append.1 he with he | he
   ·simp at he; exact ⟨i, he⟩
   ·exact h2 e he
theorem qih {P : Program} {w : World} {a : Addr} {ty : TypeId} (l : List Value) (hA : ∀ es, (isAgg ty).runT P w es = (.ok true w, es)) (hS : ∀ es, (sizeOf ty).runT P w es = (.ok l.length w, es)) (hc : ∀ j v, l[j]? = some v → w.cell? (a.add j) = some v) :
  ∃ es1, (Instr.loadAt ty (.pointer (some a))).runT P w #[] = (.ok (.agg l.toArray) w, es1) ∧ ∀ e ∈ es1, ∃ j, e = ⟨.cell (a.add j), false, false⟩ := by
 obtain ⟨es1, h1, h2⟩ := qfc (P := P) (w := w) (a := a) l 0 #[] #[] fun j v hj => by rw [Nat.zero_add]; exact hc j v hj
 refine ⟨es1, ?_, h2⟩
 show ((isAgg ty).bind fun c => if c = true then (sizeOf ty).bind fun n => (loadCellsFrom a 0 n #[]).bind fun cs => Sem.pure (.agg cs) else Go.load a).runT P w #[] = _
 rw [Sem.runT_bind', hA]
 simp only [if_true]
 rw [Sem.runT_bind', hS]
 simp only []
 rw [Sem.runT_bind', h1]
 simp [Sem.runT]
section
variable {N : Blocks} {kv : List Value} {cs cs1 : List Frame} {w : World} {Z : Frame → World → Prop} {b : Frame} {a : Act} {k : List Item}
theorem qf.blind {ops : Array Oper} {i : Nat} {td : List Nat} {o : Oper} {e : Operand → Value} {R : Value → World → Prop} (hbl : blG b.fn = true) (hk : b.kind ≠ .early) (ho : ops[i]? = some o) (hok : qa0 XG.P XG.P' fb true o = true) (hw : Region.wanted o (yielded ops a.tmps) = true)
  (hsame : execOp a.eval o = execOp e o) (he : ∀ ρ, (∀ v ∈ kv, VR XG.F ρ v v) → EvR XG.F fb ρ e e) (hr : ∀ wc, Same w wc → ∃ v w1, (execOp e o).run XG.P wc = .ok (.value v) w1 ∧ R v w1 ∧ wc.heap.size ≤ w1.heap.size)
  (n : ∀ v w1, R v w1 → qf N (v :: kv) cs (b.at (a.put o.dst v) (.inRegion ops td :: k)) w1 cs1 Z) : qf N kv cs (b.at a (.inRegion ops (i :: td) :: k)) w cs1 Z := fun wc s gs sl t SB ρ q hc hN hK => by
 have key : ∀ d, ∃ v w1, (execOp e o).run XG.P (wc.at d) = .ok (.value v) w1 ∧ R v w1 ∧ wc.heap.size ≤ w1.heap.size := fun d => hr (wc.at d) (s.trans (Same.at wc d))
 have hwr : ∀ d, WR XG ρ (wc.at d) (wc.at d) := fun d => ⟨hc.wr.fn, hc.wr.inj, hc.wr.heap, fun _ _ => rfl, hc.wr.sh⟩
 have hst : ∀ d v w1, (execOp e o).run XG.P (wc.at d) = .ok (.value v) w1 → stepG XG.P true (G (b.at a (.inRegion ops (i :: td) :: k)) cs) (wc.at d) = .go (G (b.at (a.put o.dst v) (.inRegion ops td :: k)) cs) w1 _ := fun d v w1 h =>
  stepG_value (P := XG.P) (main := true) (b := b) (k := k) (cs := cs) (rest := td) (a := a) (w := wc.at d) ho hw hk (by rw [hsame]; exact h)
 have step : ∀ d v w1, (execOp e o).run XG.P (wc.at d) = .ok (.value v) w1 → wc.heap.size ≤ w1.heap.size →
   ∃ ρ1, ρ.le ρ1 ∧ WR XG ρ1 w1 w1 ∧ VR XG.F ρ1 v v ∧ xh (rng ρ) (own XG ρ) (wc.at d) (rng ρ1) (own XG ρ1) w1 ((execOp e o).events XG.P (wc.at d) #[]) := fun d v w1 h _ =>
  let ⟨ρ1, m1, m2, m3, m4, _⟩ := qnc rfl qga hok (he ρ hK) (hwr d) h
  ⟨ρ1, m1, m2, m3, m4⟩
 have hap : ∀ (d : Nat) (v : Value) (w1 : World) (ρ1 : Rel) (es : Array Event), xh (rng ρ) (own XG ρ) (wc.at d) (rng ρ1) (own XG ρ1) w1 es → ∀ b, rng ρ1 b → ¬ SB b := fun d v w1 ρ1 es m4 b hb hs => by
  rcases m4.new b hb with h1 | h1
  ·exact hc.foot.apart b h1 hs
  ·have h2 : wc.heap.size ≤ b := h1
   have := hc.foot.low b hs
   omega
 obtain ⟨M, gs1, a1, d, w1, es, sl1, t1, q1, hrun, hgo, hz, h01, hL1, hP1, _⟩ := yx (P := XG.P) (SB := SB) (sl := sl) hc.g0 rfl hc.leavers hc.past fun d => by
  obtain ⟨v, w1, h1, _, h3⟩ := key d
  obtain ⟨ρ1, m1, m2, m3, m4⟩ := step d v w1 h1 h3
  refine ⟨_, w1, _, hst d v w1 h1, h3, fun ev hev => ?_⟩
  have := mem_listed hev
  rw [hsame] at this
  exact qhu (m4.ev ev this) (hap d v w1 ρ1 _ m4) m4.low
 obtain ⟨v, w1', h1, h2, h3⟩ := key d
 obtain ⟨ρ1, m1, m2, m3, m4⟩ := step d v w1' h1 h3
 rw [hst d v w1' h1] at hgo
 injection hgo with e1 e2 e3
 subst e1; subst e2
 obtain ⟨gs2, fr2, w2, sl2, t2, SB2, ρ2, q2, k1, k2, k3, k4, k5⟩ := n v w1' h2 w1' (Same.refl _) gs1 sl1 t1 SB ρ1 q1
  ⟨h01, hL1, hP1, ⟨hap d v w1' ρ1 _ m4, fun b hb => xll (hc.foot.low b hb) h3, m4.own, m4.low⟩, fun hb => (by rw [show (b.at (a.put o.dst v) (.inRegion ops td :: k)).fn = b.fn from rfl, hbl] at hb; cases hb), fun c hcc hb => (hc.cs c hcc hb).mono m1, m2, trivial⟩ hN
  (fun x hx => by
   rcases List.mem_cons.1 hx with rfl | hx
   ·exact m3
   ·exact (hK x hx).mono m1)
 exact ⟨gs2, fr2, w2, sl2, t2, SB2, ρ2, q2, Runs.trans ⟨M, hrun⟩ k1, k2, k3, k4, fun x hx => k5 x (.tail _ hx)⟩
theorem qf.look {ops : Array Oper} {i x : Nat} {td : List Nat} {o : Oper} {ty : TypeId} {b0 o0 : Nat} {l : List Value} (hbl : blG b.fn = true) (hk : b.kind ≠ .early) (ho : ops[i]? = some o) (hop : o.op = .load ty (.tmp x)) (hw : Region.wanted o (yielded ops a.tmps) = true)
  (hx : a.eval (.tmp x) = .pointer (some ⟨b0, o0, none⟩)) (hNb : N b0) (hA : ∀ w es, (isAgg ty).runT XG.P w es = (.ok true w, es)) (hS : ∀ w es, (sizeOf ty).runT XG.P w es = (.ok l.length w, es)) (hlt : b0 < w.heap.size)
  (hc : ∀ j v, l[j]? = some v → w.cell? ((⟨b0, o0, none⟩ : Addr).add j) = some v) (hv : ∀ ρ, VR XG.F ρ (.agg l.toArray) (.agg l.toArray))
  (n : qf N kv cs (b.at (a.put o.dst (.agg l.toArray)) (.inRegion ops td :: k)) w cs1 Z) : qf N kv cs (b.at a (.inRegion ops (i :: td) :: k)) w cs1 Z := fun wc s gs sl t SB ρ q hcc hN hK => by
 have run : ∀ d, ∃ es1, (execOp a.eval o).runT XG.P (wc.at d) #[] = (.ok (.value (.agg l.toArray)) (wc.at d), es1) ∧ ∀ e ∈ es1, ∃ j, e = ⟨.cell ((⟨b0, o0, none⟩ : Addr).add j), false, false⟩ := fun d => by
  obtain ⟨es1, h1, h2⟩ := qih (P := XG.P) (w := wc.at d) (a := ⟨b0, o0, none⟩) (ty := ty) l (hA _) (hS _) fun j v hj => by
   have := hc j v hj
   have e : (wc.at d).cell? ((⟨b0, o0, none⟩ : Addr).add j) = w.cell? ((⟨b0, o0, none⟩ : Addr).add j) := xcb (by show wc.heap[_]? = _; rw [s.heap])
   rw [e]; exact this
  refine ⟨es1, ?_, h2⟩
  have he : execOp a.eval o = (Instr.loadAt ty (.pointer (some ⟨b0, o0, none⟩))).bind fun v => Sem.pure (.value v) := by
   unfold execOp
   rw [hop, ← hx]
   rfl
  rw [he]
  rw [Sem.runT_bind', h1]
  simp [Sem.runT]
 have hst : ∀ d, stepG XG.P true (G (b.at a (.inRegion ops (i :: td) :: k)) cs) (wc.at d) = .go (G (b.at (a.put o.dst (.agg l.toArray)) (.inRegion ops td :: k)) cs) (wc.at d) _ := fun d =>
  stepG_value (P := XG.P) (main := true) (b := b) (k := k) (cs := cs) (rest := td) (a := a) (w := wc.at d) ho hw hk (by
   obtain ⟨es1, h1, _⟩ := run d
   rw [← Sem.runT_fst XG.P _ _ #[], h1])
 obtain ⟨M, gs1, a1, d, w1, es, sl1, t1, q1, hrun, hgo, hz, h01, hL1, hP1, _⟩ := yx (P := XG.P) (SB := SB) (sl := sl) hcc.g0 rfl hcc.leavers hcc.past fun d => by
  refine ⟨_, _, _, hst d, jy _, fun ev hev => ?_⟩
  have := mem_listed hev
  obtain ⟨es1, h1, h2⟩ := run d
  have ee : (execOp a.eval o).events XG.P (wc.at d) #[] = es1 := by
   have := congrArg Prod.snd h1
   simpa [Sem.runT_eq] using this
  rw [ee] at this
  obtain ⟨j, rfl⟩ := h2 ev this
  have hbk : ((⟨b0, o0, none⟩ : Addr).add j).block = b0 := by rw [Addr.add_lit]
  refine qhu (F := fun b => b = b0) (O := fun _ => False) (show EvF _ _ _ from ⟨rfl, hbk, fun e => by cases e⟩) (fun b hb => by subst hb; exact hN _ hNb) (fun b hb => by subst hb; show _ < wc.heap.size; rw [s.heap]; exact hlt)
 rw [hst d] at hgo
 injection hgo with e1 e2 e3
 subst e1; subst e2
 obtain ⟨gs2, fr2, w2, sl2, t2, SB2, ρ2, q2, k1, k2, k3, k4, k5⟩ := n (wc.at d) (s.trans (Same.at wc d)) gs1 sl1 t1 SB ρ q1
  ⟨h01, hL1, hP1, ⟨hcc.foot.apart, hcc.foot.low, hcc.foot.own, hcc.foot.foot⟩, fun hb => (by rw [show (b.at (a.put o.dst (.agg l.toArray)) (.inRegion ops td :: k)).fn = b.fn from rfl, hbl] at hb; cases hb), hcc.cs, ⟨hcc.wr.fn, hcc.wr.inj, hcc.wr.heap, fun _ _ => rfl, hcc.wr.sh⟩, trivial⟩ hN hK
 exact ⟨gs2, fr2, w2, sl2, t2, SB2, ρ2, q2, Runs.trans ⟨M, hrun⟩ k1, k2, k3, k4, k5⟩
end
section
variable {N : Blocks} {kv : List Value} {cs cs1 : List Frame} {w : World} {Z : Frame → World → Prop} {b : Frame} {a : Act} {k : List Item}
theorem yu.of {f : FuncId} {fn : Func} {args : Array Value} {R : Value → World → Prop} (hbl : blG f = false) (hfb : fb f = true) (hfn : XG.P.funcs[f]? = some fn) (hres : ∀ tmps, ∃ v, ∀ w, (results fn tmps).runT XG.P w #[] = (.ok v w, #[]))
  (hvr : ∀ ρ tmps v w, jw XG.F ρ tmps.toList tmps.toList → (results fn tmps).run XG.P w = .ok v w → VR XG.F ρ v v) (hS : ∀ v w wc, Same w wc → R v w → R v wc)
  (hc : ∀ wc, Same w wc → Calls XG.P f args wc fun | .returned v, w' => R v w' | _, _ => False) : yu N kv f args w R := fun c cs wc s gs sl t SB ρ q h hN hK => by
 obtain ⟨fn', body, h1, h2, h3, _⟩ := qog qqk f hfb
 have henter : (Frame.enter XG.P f args .normal).todo = [.code body] := by
  unfold Frame.enter
  rw [show XG.P.funcs[f]? = some fn' from h1]
  simp [h2]
 have hf : FR XG fb true ρ (Frame.enter XG.P f args .normal) (Frame.enter XG.P f args .normal) := by
  have h0 := h.fr hbl
  refine ⟨rfl, h0.same, h0.tmps, ?_, h0.defers, rfl, h0.run, h0.kind, h0.kind', h0.round⟩
  rw [henter]
  exact .cons (.code h3) .nil
 have hB : Bot [Frame.enter XG.P f args .normal] := by
  intro g hg
  simp at hg
  subst hg
  unfold Frame.enter
  rw [show XG.P.funcs[f]? = some fn' from h1]
 have hinv : Inv XG fb true (Frame.enter XG.P f args .normal) [c0] wc := ⟨ρ, _, [], [], wc, rfl, hf, .nil, h.wr, trivial, hB⟩
 have hm := qd1 qga hinv (R := R) (fun v w τ hr => hS v (re w τ) w ⟨rfl, rfl, rfl⟩ hr) fun τ _ => hc (re wc τ) (s.trans (Same.re wc τ))
 have hQm : ∀ fr cs w, qru XG.P f R fr cs w → ∀ ch, fr.mode ≠ .panicking ch := fun fr cs w ⟨_, _, v, h, _⟩ ch e => by rw [h.1] at e; cases e
 obtain ⟨M, gs1, fr2, up2, w2, wc2, sl1, t1, q1, ρ2, hr, ⟨hcs, hf2, v, ⟨l1, l2, l3, fn2, l4, l5⟩, hRv⟩, hz, g0, hs, g1, g2, g3, g4, g5, hL, hP, hF⟩ := qic (sl := sl) rfl qga hQm hm (up := []) (base := c :: cs) rfl (by simp) hf .nil (WN.of h.wr) (Same.refl wc) trivial hB h.g0 h.leavers h.past h.foot
 have hu : up2 = [] := by
  have := congrArg List.length hcs
  simp at this
  exact List.eq_nil_of_length_eq_zero (by simpa using this)
 subst hu
 rw [hf2, hfn] at l4
 cases l4
 obtain ⟨v', hv'⟩ := hres fr2.tmps
 have ev : v' = v := by
  have := congrArg Prod.fst (hv' w2)
  rw [Sem.runT_fst, l5] at this
  cases this
  rfl
 subst ev
 have hl : Leaves fr2 v' := ⟨l1, l2, l3, fn, by rw [hf2]; exact hfn, hv'⟩
 have hco : Co XG fb blG SB ρ2 gs1 fr2 (c :: cs) wc2 t1 q1 := ⟨g0, hL, hP, hF, fun _ => qmr g1, fun c' hc' hb => (h.cs c' hc' hb).mono g4, WR.self qga g3 hs wc2.drawn, trivial⟩
 have last : qf N kv (c :: cs) fr2 wc2 cs (fun fr w' => ∃ v, fr = c.finish v ∧ R v w') :=
  qf.sil (.step (fun w => qcp hl) (.refl _ _)) (fun ρ h1 h2 _ => ⟨fun hb => FSt.finish (h2 c (.head _) (by rw [← Frame.qfo c v']; exact hb)) (hvr ρ fr2.tmps v' w2 (h1 (by rw [hf2]; exact hbl)).tmps l5), fun c hc => h2 c (.tail _ hc)⟩) (qf.done fun wc s => ⟨v', rfl, hS _ _ _ s (hS _ _ _ hs hRv)⟩)
 obtain ⟨gs3, fr3, w3, sl3, t3, SB3, ρ3, q3, k1, k2, k3, k4, k5⟩ := last wc2 (Same.refl _) gs1 sl1 t1 SB ρ2 q1 hco hN fun x hx => (hK x hx).mono g4
 exact ⟨gs3, fr3, w3, sl3, t3, SB3, ρ3, q3, Runs.trans ⟨M, hr⟩ k1, k2, k3, k4, k5⟩
theorem qf.val {ops : Array Oper} {i : Nat} {td : List Nat} {o : Oper} (hbl : blG b.fn = true) (hk : b.kind ≠ .early) (v : Value) (ho : ops[i]? = some o) (hw : Region.wanted o (yielded ops a.tmps) = true)
  (hr : ∀ w, (execOp a.eval o).run XG.P w = .ok (.value v) w ∧ (execOp a.eval o).events XG.P w #[] = #[])
  (n : qf N kv cs (b.at (a.put o.dst v) (.inRegion ops td :: k)) w cs1 Z) : qf N kv cs (b.at a (.inRegion ops (i :: td) :: k)) w cs1 Z := by
 refine qf.sil (.step (fun w1 => ?_) (.refl _ _)) (fun _ _ h2 _ => ⟨fun hb => ?_, h2⟩) n
 ·have h := stepG_value (P := XG.P) (main := true) (b := b) (k := k) (cs := cs) (rest := td) (a := a) (w := w1) ho hw hk (hr w1).1
  rw [h]
  unfold listed
  rw [(hr w1).2, seen_none]
 ·rw [show (b.at (a.put o.dst v) (.inRegion ops td :: k)).fn = b.fn from rfl, hbl] at hb
  cases hb
end
end
end Go.Proofs.YtkpekiajdlolnabGreat.Ph
namespace Go.Proofs.YtkpekiajdlolnabGreat
section
open Go.RowKit
def letter (b : UInt8) : Bool := decide (97 ≤ b.toNat) && decide (b.toNat ≤ 122)
def qaz (l : List UInt8) : Bool := decide (0 < l.length) && (decide (l.length ≤ 8) && l.all letter)
def shd (b : Nat) : Nat := if b ≤ 103 then 0 else if b ≤ 109 then 1 else if b ≤ 116 then 2 else 3
def ji (l : List UInt8) : Nat := shd ((l.headD 0).toNat)
theorem qf6 (s : ByteArray) (k : Nat) (h : k < s.size) : (s.data.toList.take (k + 1)).all letter = ((s.data.toList.take k).all letter && letter s[k]) := by
 have : s.data.toList.take (k + 1) = s.data.toList.take k ++ [s[k]] := by
  rw [List.take_succ_eq_append_getElem (by simpa using h)]; rfl
 rw [this, List.all_append]; simp
def q4m (w : World) (e : Ending) (w' : World) : Prop := e = .returned (.tuple #[.int .i64 0, .bool false]) ∧ Below w.heap.size w w'
def q8j (k : Nat) (w : World) (e : Ending) (w' : World) : Prop := e = .returned (.tuple #[.int .i64 k, .bool true]) ∧ Below w.heap.size w w'
theorem toList_nil {s : ByteArray} (h : s.size = 0) : s.toList = [] := by
 rw [ByteArray.toList_eq]
 apply List.eq_nil_of_length_eq_zero
 simpa using h
theorem qgl {s : ByteArray} (h : 0 < s.size) : s.toList.isEmpty = false := by
 rw [ByteArray.toList_eq]
 cases e : s.data.toList with
 |nil =>
  have : s.data.toList.length = 0 := by rw [e]; rfl
  have h2 : s.data.toList.length = s.size := by simp
  omega
 |cons a l => rfl
theorem qyh (s : ByteArray) (w : World) (h : s.size = 0 ∨ 8 < s.size) (hs : s.size ≤ maxLen) : Calls Tryz.prog 41 #[.string s] w (q4m w) := by
 unfold maxLen at hs
 rcases h with h | h
 ·have hs0 : s.toList = [] := toList_nil h
  have hs1 : s.toList.isEmpty = true := by rw [hs0]; rfl
  go_enter Tryz.func41, Tryz.ntmps41
  go_wp2
  go_ret2
  exact ⟨rfl, jo _ _⟩
 ·have hs1 : s.toList.isEmpty = false := qgl (by omega)
  have hs2 : decide ((8 : Int) < s.size) = true := by simp; omega
  go_enter Tryz.func41, Tryz.ntmps41
  go_wp2
  go_ret2
  exact ⟨rfl, jo _ _⟩
theorem qj8 (b : UInt8) : letter b = true ↔ 97 ≤ b.toNat ∧ b.toNat ≤ 122 := by simp [letter]
theorem qnb (s : ByteArray) (w : World) (h : qaz s.data.toList = true) : Calls Tryz.prog 41 #[.string s] w (q8j (ji s.data.toList) w) := by
 simp only [qaz, Bool.and_eq_true, decide_eq_true_eq, List.all_eq_true, qj8] at h
 obtain ⟨h0, h8, hl⟩ := h
 have h0 : 0 < s.size := by simpa using h0
 have h8 : s.size ≤ 8 := by simpa using h8
 have hs1 : s.toList.isEmpty = false := qgl h0
 have hs2 : decide ((8 : Int) < s.size) = false := by simp; omega
 have HL := Lib.hid hl
 clear hl
 go_enter Tryz.func41, Tryz.ntmps41
 go_wp2
 go_loopw [5] (fun _ w' => ∃ pos, pos ≤ s.size ∧ w' = w.iter s pos) (fun _ w' => s.size - w'.iterPos w.heap.size)
 case atStart => exact ⟨0, xzl _, rfl⟩
 case round =>
  obtain ⟨pos, hle, rfl⟩ := hrel
  by_cases hp : pos < s.size
  ·have hlt := HL.out s[pos] (by simp [ByteArray.getElem_eq_getElem_data])
   have ha : (s[pos]'hp).toNat < 128 := by omega
   have g1 : decide (((s[pos]'hp).toNat : Int) < 97) = false := by simp; omega
   have g2 : decide ((122 : Int) < ((s[pos]'hp).toNat : Int)) = false := by simp; omega
   have hnx : ∀ ty, (Instr.next (.pointer (some ⟨w.heap.size, 0, none⟩)) true ty).run Tryz.prog (w.iter s pos) = _ := fun ty => run_next_ascii w s pos ty hp ha
   go_wp2
   go_roundw
   case rel => exact ⟨pos + 1, by omega, rfl⟩
   case measure => simp; omega
  ·have hnx : ∀ ty, (Instr.next (.pointer (some ⟨w.heap.size, 0, none⟩)) true ty).run Tryz.prog (w.iter s pos) = _ := fun ty => run_next_end w s pos ty hp
   have hh : ji s.data.toList = shd (s[0]'h0).toNat := by
    unfold ji
    cases e : s.data.toList with
    |nil =>
     have : s.data.toList.length = s.size := by simp
     rw [e] at this; simp at this; omega
    |cons a l =>
     have : s[0] = a := by
      have h1 : s[0] = s.data.toList[0]'(by simpa using h0) := by simp [ByteArray.getElem_eq_getElem_data]
      rw [h1]; simp [e]
     rw [this]; rfl
   have HH := Lib.hid hh
   clear hh
   have he : Below w.heap.size w (w.iter s pos) := (jo _ _).alloc (jy _) _
   go_wp2
   all_goals
    go_ret2
    refine ⟨?_, he⟩
    rw [HH.out]
    unfold shd
   ·rw [if_pos (by omega)]; rfl
   ·rw [if_neg (by omega), if_pos (by omega)]; rfl
   ·rw [if_neg (by omega), if_neg (by omega), if_pos (by omega)]; rfl
   ·rw [if_neg (by omega), if_neg (by omega), if_neg (by omega)]; rfl
theorem q5w (s : ByteArray) (w : World) (h0 : 0 < s.size) (h8 : s.size ≤ 8) (hl : ¬ s.data.toList.all letter = true) : Calls Tryz.prog 41 #[.string s] w (q4m w) := by
 have hs1 : s.toList.isEmpty = false := qgl h0
 have hs2 : decide ((8 : Int) < s.size) = false := by simp; omega
 have HL := Lib.hid hl
 clear hl
 go_enter Tryz.func41, Tryz.ntmps41
 go_wp2
 go_loopw [5] (fun _ w' => ∃ pos, pos ≤ s.size ∧ w' = w.iter s pos ∧ (s.data.toList.take pos).all letter = true) (fun _ w' => s.size - w'.iterPos w.heap.size)
 case atStart => exact ⟨0, xzl _, rfl, by simp⟩
 case round =>
  obtain ⟨pos, hle, rfl, hall⟩ := hrel
  have HA := Lib.hid hall
  clear hall
  by_cases hp : pos < s.size
  ·have he : Below w.heap.size w (w.iter s (pos + (Utf8.decode s pos).2)) := (jo _ _).alloc (jy _) _
   by_cases ha : (s[pos]'hp).toNat < 128
   ·have hnx : ∀ ty, (Instr.next (.pointer (some ⟨w.heap.size, 0, none⟩)) true ty).run Tryz.prog (w.iter s pos) = _ := fun ty => run_next_ascii w s pos ty hp ha
    have he : Below w.heap.size w (w.iter s (pos + 1)) := (jo _ _).alloc (jy _) _
    by_cases h1 : (s[pos]'hp).toNat < 97
    ·have g1 : decide (((s[pos]'hp).toNat : Int) < 97) = true := by simp; omega
     go_wp2
     go_ret2
     exact ⟨rfl, he⟩
    ·have g1 : decide (((s[pos]'hp).toNat : Int) < 97) = false := by simp; omega
     by_cases h2 : 122 < (s[pos]'hp).toNat
     ·have g2 : decide ((122 : Int) < ((s[pos]'hp).toNat : Int)) = true := by simp; omega
      go_wp2
      go_ret2
      exact ⟨rfl, he⟩
     ·have g2 : decide ((122 : Int) < ((s[pos]'hp).toNat : Int)) = false := by simp; omega
      have hlt : letter s[pos] = true := by simp [letter]; omega
      have hn : (s.data.toList.take (pos + 1)).all letter = true := by rw [qf6 s pos hp, HA.out, hlt]; rfl
      have HN := Lib.hid hn
      clear hn hlt
      go_wp2
      go_roundw
      case rel => exact ⟨pos + 1, by omega, rfl, HN.out⟩
      case measure => simp; omega
   ·have hdh := decode_high s pos hp (by omega)
    have hnx : ∀ ty, (Instr.next (.pointer (some ⟨w.heap.size, 0, none⟩)) true ty).run Tryz.prog (w.iter s pos) = _ := fun ty => run_next_any w s pos ty hp
    have g1 : decide (((Utf8.decode s pos).1 : Int) < 97) = false := by simp; omega
    have g2 : decide ((122 : Int) < ((Utf8.decode s pos).1 : Int)) = true := by simp; omega
    go_wp2
    go_ret2
    exact ⟨rfl, he⟩
  ·exact absurd (by have e := HA.out; rwa [List.take_of_length_le (by simp; omega)] at e) HL.out
theorem q4b (s : ByteArray) (w : World) (h : qaz s.data.toList = false) (hs : s.size ≤ maxLen) : Calls Tryz.prog 41 #[.string s] w (q4m w) := by
 by_cases h0 : s.size = 0 ∨ 8 < s.size
 ·exact qyh s w h0 hs
 ·refine q5w s w (by omega) (by omega) fun hl => ?_
  have : qaz s.data.toList = true := by
   simp only [qaz, Bool.and_eq_true, decide_eq_true_eq]
   exact ⟨by simp; omega, by simp; omega, hl⟩
  rw [h] at this; cases this
end
section
open Go.RowKit Go.Maps
abbrev Bs := List UInt8
abbrev KV := List (Bs × Bs)
def sv (l : Bs) : Value := .string ⟨l.toArray⟩
def Rv : Value → Option (DataW Unit × List MemPlace)
 | .agg cs => match cs.toList with
  | [.string s] => some (.agg [.lit (.string s.data.toList)], [])
  |_ => none
 |_ => none
def ev (v : Bs) : DataW Unit := .agg [.lit (.string v)]
def DM (L : KV) : DataW Unit := .map (L.map fun p => (.string p.1, ev p.2))
def j4 (w : World) (mb : Nat) (L : KV) : Prop := w.ownsMap Tryz.prog 9 Rv mb L.length (DM L)
theorem qvo {v : Value} {b : Bs} {ps : List MemPlace} (h : Rv v = some (ev b, ps)) : v = .agg #[sv b] := by
 cases v with
 |agg cs =>
  obtain ⟨l⟩ := cs
  simp only [Rv] at h
  split at h
  ·rename_i s
   simp only [Option.some.injEq, Prod.mk.injEq, ev] at h
   obtain ⟨h1, _⟩ := h
   injection h1 with h1
   injection h1 with h1 _
   injection h1 with h1
   injection h1 with h1
   subst h1
   rfl
  ·cases h
 |_ => cases h
def jd (L : KV) (k : Bs) : Option Bs := (L.find? (fun p => p.1 == k)).map (·.2)
theorem q1e (L : KV) (k : Bs) : (L.map fun p => ((Lit.string p.1 : Lit), ev p.2)).find? (fun p => p.1.sameKey (.string k)) = (L.find? (fun p => p.1 == k)).map fun p => (.string p.1, ev p.2) := by
 induction L with
 |nil => rfl
 |cons p L ih =>
  rw [List.map_cons, List.find?_cons, List.find?_cons, ih]
  have : ((Lit.string p.1).sameKey (.string k)) = (p.1 == k) := rfl
  rw [this]
  cases p.1 == k <;> rfl
theorem qnz (L : KV) (k : Bs) (z : DataW Unit) : (DM L).atKey (.string k) z = match jd L k with | some v => ev v | none => z := by
 unfold DM DataW.atKey jd
 dsimp only
 rw [q1e]
 cases L.find? (fun p => p.1 == k) <;> rfl
theorem q5f (L : KV) (k : Bs) : Maps.has (DM L) (.string k) = (jd L k).isSome := by
 unfold DM jd
 rw [Maps.has_eq, Option.isSome_map, List.any_map]
 induction L with
 |nil => rfl
 |cons p L ih =>
  rw [List.any_cons, List.find?_cons, ih]
  have e : ((fun p : Lit × DataW Unit => p.1.sameKey (.string k)) ∘ fun p : Bs × Bs => ((Lit.string p.1 : Lit), ev p.2)) p = (p.1 == k) := rfl
  rw [e]
  cases p.1 == k <;> rfl
theorem qi8 (L : KV) : Maps.size (DM L) = L.length := by simp [DM, Maps.size]
theorem j4.of {w : World} {mb n : Nat} {L : KV} (h : w.ownsMap Tryz.prog 9 Rv mb n (DM L)) : j4 w mb L := by
 obtain ⟨es, clock, hb, F, hs, hD⟩ := h
 refine ⟨es, clock, hb, F, ?_, hD⟩
 have h1 : Maps.size (DM L) = es.size := by rw [hD]; simp [Maps.size, length_sorted]
 rw [qi8] at h1
 omega
theorem j4.block {w w' : World} {mb : Nat} {L : KV} (h : j4 w mb L) (k : w'.heap[mb]? = w.heap[mb]?) : j4 w' mb L := by
 obtain ⟨es, clock, hb, F⟩ := h
 exact ⟨es, clock, k.trans hb, F⟩
theorem qs4 (w : World) : (zeroValue 146).run Tryz.prog w = .ok (.agg #[.string ⟨#[]⟩]) w := by kernel_rfl
theorem qm7 (s : ByteArray) (hs : s.size ≤ maxLen) : keyOf Tryz.prog 9 (.string s) = some (.string s.data.toList) := WideMaps.keyOf_string_mk Tryz.underlying9 hs
section
variable {w : World} {db mb : Nat} {L : KV}
theorem jav (hd : w.cell? ⟨db, 0, none⟩ = some (.map (some mb))) (hm : j4 w mb L) : Calls Tryz.prog 68 #[.pointer (some ⟨db, 0, none⟩)] w fun e w' => e = .returned (.int .i64 L.length) ∧ w' = w := by
 have hown := hm
 have hlen := fun ty => hown.len Tryz.underlying140 ty
 rw [qi8] at hlen
 clear hown hm
 go_enter Tryz.func68, Tryz.ntmps68
 go_wp2
 go_ret
 exact ⟨rfl, rfl⟩
theorem q1h (hm : j4 w mb L) (s : ByteArray) (hs : s.size ≤ maxLen) : (Instr.lookup 140 (.map (some mb)) (.string s) true).run Tryz.prog w = .ok (.tuple #[.agg #[sv ((jd L s.data.toList).getD [])], .bool (jd L s.data.toList).isSome]) w := by
 have hown := hm
 obtain ⟨v, ps, hrun, hv⟩ := hown.look_ok (string_keyed Tryz.underlying9) Tryz.underlying140 (qs4 w) (zd := ev []) (zp := []) rfl (qm7 s hs)
 rw [q5f] at hrun
 rw [qnz] at hv
 have : Rv v = some (ev ((jd L s.data.toList).getD []), ps) := by
  rw [hv]
  cases jd L s.data.toList <;> rfl
 rw [hrun, qvo this]
def qrv (w : World) (x : Option Bs) (e : Ending) (w' : World) : Prop := e = .returned (.tuple #[sv (x.getD []), .bool x.isSome]) ∧ Below w.heap.size w w'
theorem qww (hd : w.cell? ⟨db, 0, none⟩ = some (.map (some mb))) (hm : j4 w mb L) (s : ByteArray) (hs : s.size ≤ maxLen) : Calls Tryz.prog 42 #[.pointer (some ⟨db, 0, none⟩), .string s] w (qrv w (jd L s.data.toList)) := by
 have hg := q1h hm s hs
 clear hm
 unfold qrv
 generalize jd L s.data.toList = x at *
 unfold sv at *
 generalize (⟨(x.getD []).toArray⟩ : ByteArray) = bs at *
 go_enter Tryz.func42, Tryz.ntmps42
 go_wp2
 go_ret2
 exact ⟨rfl, (jo _ _).alloc (jy _) _⟩
end
structure But (B : Nat → Prop) (w w' : World) : Prop where
 size : w.heap.size ≤ w'.heap.size
 keep : ∀ k, k < w.heap.size → ¬ B k → w'.heap[k]? = w.heap[k]?
 os : w'.os = w.os
 output : w'.output = w.output
theorem But.refl (B : Nat → Prop) (w : World) : But B w w := ⟨jy _, fun _ _ _ => rfl, rfl, rfl⟩
theorem But.trans {B : Nat → Prop} {a b c : World} (h : But B a b) (k : But B b c) : But B a c :=
 ⟨xlt h.size k.size, fun i hi hb => (k.keep i (xll hi h.size) hb).trans (h.keep i hi hb), k.os.trans h.os, k.output.trans h.output⟩
theorem But.mono {B B' : Nat → Prop} {w w' : World} (h : But B w w') (k : ∀ b, B b → B' b) : But B' w w' := ⟨h.size, fun i hi hb => h.keep i hi fun x => hb (k i x), h.os, h.output⟩
theorem But.drew {B : Nat → Prop} {w w' : World} (h : But B w w') : But B w w'.drew := ⟨h.size, h.keep, h.os, h.output⟩
theorem But.of_below {B : Nat → Prop} {w w' : World} (h : Below w.heap.size w w') : But B w w' := ⟨h.size, fun i hi _ => h.block i hi, h.os, h.output⟩
def ins (k v : Bs) : KV → KV
 | [] => [(k, v)]
 |p :: L => if bytesBefore k p.1 then (k, v) :: p :: L else p :: ins k v L
def qbe (L : KV) (k v : Bs) : KV := ins k v (L.filter fun p => !(p.1 == k))
def qap (L : KV) (k : Bs) : KV := L.filter fun p => !(p.1 == k)
theorem qlw (L : KV) (k : Bs) : ((L.map fun p => ((Lit.string p.1 : Lit), ev p.2)).filter fun p => !p.1.sameKey (.string k)) = (qap L k).map fun p => (.string p.1, ev p.2) := by
 induction L with
 |nil => rfl
 |cons p L ih =>
  have e : ((Lit.string p.1).sameKey (.string k)) = (p.1 == k) := rfl
  rw [List.map_cons, List.filter_cons, ih]
  unfold qap
  rw [List.filter_cons]
  rw [e]
  cases p.1 == k <;> rfl
theorem q43 (L : KV) (k : Bs) : (DM L).del (.string k) = DM (qap L k) := by
 unfold DM DataW.del
 dsimp only
 rw [qlw]
theorem qt1 (L : KV) (k v : Bs) : DataW.insert ((Lit.string k : Lit), ev v) (L.map fun p => ((Lit.string p.1 : Lit), ev p.2)) = (ins k v L).map fun p => (.string p.1, ev p.2) := by
 induction L with
 |nil => rfl
 |cons p L ih =>
  rw [List.map_cons]
  unfold DataW.insert ins
  have e : ((Lit.string k).before (Lit.string p.1)) = bytesBefore k p.1 := rfl
  rw [e]
  cases bytesBefore k p.1
  ·simp [ih]
  ·rfl
theorem q59 (L : KV) (k v : Bs) : (DM L).put (.string k) (ev v) = DM (qbe L k v) := by
 unfold DM DataW.put
 dsimp only
 rw [qlw, qt1]
 rfl
section
variable {w : World} {db mb : Nat} {L : KV}
theorem q2c (hm : j4 w mb L) (hL : L.length < 1073741823) (k v : ByteArray) (hk : k.size ≤ maxLen) :
  ∃ w', (Instr.mapUpdate 140 (.map (some mb)) (.string k) (.agg #[.string v])).run Tryz.prog w = .ok () w' ∧ j4 w' mb (qbe L k.data.toList v.data.toList) ∧ But (· = mb) w w' := by
 have h1 : Rv (.agg #[.string v]) = some (ev v.data.toList, []) := rfl
 obtain ⟨w', hrun, ho, hg⟩ := World.ownsMap.update hm (string_keyed Tryz.underlying9) Tryz.underlying140 (by unfold maxLen; omega) (qm7 k hk) h1
 rw [q59] at ho
 exact ⟨w', hrun, .of ho, ⟨hg.size, fun i hi hb => hg.block i hi (by simpa using hb), hg.os, hg.output⟩⟩
theorem q00 (hm : j4 w mb L) (k : ByteArray) (hk : k.size ≤ maxLen) (ty : TypeId) :
  ∃ w', (Builtin.delete_ #[140, 9] ty #[.map (some mb), .string k]).run Tryz.prog w = .ok (.tuple #[]) w' ∧ j4 w' mb (qap L k.data.toList) ∧ But (· = mb) w w' := by
 obtain ⟨w', hrun, ho, ⟨es, ck, es', ck', hb, rfl⟩⟩ := World.ownsMap.drop hm (string_keyed Tryz.underlying9) Tryz.underlying140 (qm7 k hk) ty
 rw [q43] at ho
 exact ⟨_, hrun, .of ho, ⟨by simp [ChangeMaps.setBlock], fun i hi hn => ChangeMaps.heap_setBlock_other hb _ hn, rfl, rfl⟩⟩
def qvh (w : World) (mb : Nat) (L : KV) (e : Ending) (w' : World) : Prop := e = .returned (.tuple #[]) ∧ j4 w' mb L ∧ But (· = mb) w w'
theorem qmz (hd : w.cell? ⟨db, 0, none⟩ = some (.map (some mb))) (hm : j4 w mb L) (hL : L.length < 1073741823) (k v : ByteArray) (hk : k.size ≤ maxLen) :
  Calls Tryz.prog 69 #[.pointer (some ⟨db, 0, none⟩), .agg #[.string k, .string v, .bool false]] w (qvh w mb (qbe L k.data.toList v.data.toList)) := by
 go_enter Tryz.func69, Tryz.ntmps69
 go_wp2
 have hlt : db < w.heap.size := xbl w ⟨db, 0, none⟩ hd
 have c0 : (w.alloc (.cells #[.string k, .string v, .bool false] 87)).cell? ⟨w.heap.size, 0, none⟩ = some (.string k) := by go_simp
 have c1 : (w.alloc (.cells #[.string k, .string v, .bool false] 87)).cell? ⟨w.heap.size, 1, none⟩ = some (.string v) := by go_simp
 have cd : (w.alloc (.cells #[.string k, .string v, .bool false] 87)).cell? ⟨db, 0, none⟩ = some (.map (some mb)) := (xcb (heap_alloc_old w _ hlt)).trans hd
 have hB : But (· = mb) w (w.alloc (.cells #[.string k, .string v, .bool false] 87)) := .of_below ((jo _ _).alloc (jy _) _)
 have q5j := hm.lt
 have hm1 : j4 (w.alloc (.cells #[.string k, .string v, .bool false] 87)) mb L := hm.block (heap_alloc_old w _ q5j)
 generalize w.alloc (.cells #[.string k, .string v, .bool false] 87) = W at *
 obtain ⟨w2, hrun, hm2, hB2⟩ := q2c (w := W.drew) (hm1.block rfl) hL k v hk
 refine wp_region_still_tail 11 (by kernel_rfl) (by kernel_rfl) ?_
 change wpStill _ _ W.drew (fun a' => wpList _ _ _ _ a' W.drew) _ _
 simp only [List.take_succ_cons, List.take_zero, List.drop_succ_cons, List.drop_zero]
 repeat still_step
 refine wpStill_nil ?_
 go_wp2
 go_end0
 exact ⟨rfl, hm2, hB.drew.trans hB2⟩
theorem qwj (hd : w.cell? ⟨db, 0, none⟩ = some (.map (some mb))) (hm : j4 w mb L) (k v : ByteArray) (hk : k.size ≤ maxLen) :
  Calls Tryz.prog 69 #[.pointer (some ⟨db, 0, none⟩), .agg #[.string k, .string v, .bool true]] w (qvh w mb (qap L k.data.toList)) := by
 go_enter Tryz.func69, Tryz.ntmps69
 go_wp2
 have hlt : db < w.heap.size := xbl w ⟨db, 0, none⟩ hd
 have c0 : (w.alloc (.cells #[.string k, .string v, .bool true] 87)).cell? ⟨w.heap.size, 0, none⟩ = some (.string k) := by go_simp
 have cd : (w.alloc (.cells #[.string k, .string v, .bool true] 87)).cell? ⟨db, 0, none⟩ = some (.map (some mb)) := (xcb (heap_alloc_old w _ hlt)).trans hd
 have hB : But (· = mb) w (w.alloc (.cells #[.string k, .string v, .bool true] 87)) := .of_below ((jo _ _).alloc (jy _) _)
 have q5j := hm.lt
 have hm1 : j4 (w.alloc (.cells #[.string k, .string v, .bool true] 87)) mb L := hm.block (heap_alloc_old w _ q5j)
 generalize w.alloc (.cells #[.string k, .string v, .bool true] 87) = W at *
 obtain ⟨w2, hrun, hm2, hB2⟩ := q00 (w := W.drew) (hm1.block rfl) k hk 0
 refine wp_region_still_tail 7 (by kernel_rfl) (by kernel_rfl) ?_
 change wpStill _ _ W.drew (fun a' => wpList _ _ _ _ a' W.drew) _ _
 simp only [List.take_succ_cons, List.take_zero, List.drop_succ_cons, List.drop_zero]
 repeat still_step
 refine wpStill_nil ?_
 go_wp2
 go_end0
 exact ⟨rfl, hm2, hB.drew.trans hB2⟩
end
end
section
theorem qdv : ∀ a : Bs, bytesBefore a a = false
 | [] => rfl
 |x :: r => by simp [bytesBefore, qdv r]
theorem qgz : ∀ {a b c : Bs}, bytesBefore a b = true → bytesBefore b c = true → bytesBefore a c = true
 | [], [], [], h, _ => h
 | [], _ :: _, [], _, h => by simp [bytesBefore] at h
 | [], _, _ :: _, _, _ => rfl
 |_ :: _, [], _, h, _ => by simp [bytesBefore] at h
 |_ :: _, _ :: _, [], _, h => by simp [bytesBefore] at h
 |x :: r, y :: s, z :: t, h, k => by
  simp only [bytesBefore, Bool.or_eq_true, decide_eq_true_eq, Bool.and_eq_true, beq_iff_eq] at *
  rcases h with h | ⟨h, h2⟩ <;> rcases k with k | ⟨k, k2⟩
  ·exact .inl (UInt8.lt_trans h k)
  ·subst k; exact .inl h
  ·subst h; exact .inl k
  ·subst h; subst k; exact .inr ⟨rfl, qgz h2 k2⟩
theorem qgy : ∀ a b : Bs, bytesBefore a b = true ∨ a = b ∨ bytesBefore b a = true
 | [], [] => .inr (.inl rfl)
 | [], _ :: _ => .inl rfl
 |_ :: _, [] => .inr (.inr rfl)
 |x :: r, y :: s => by
  simp only [bytesBefore, Bool.or_eq_true, decide_eq_true_eq, Bool.and_eq_true, beq_iff_eq, List.cons.injEq]
  rcases UInt8.lt_or_eq_of_le (UInt8.le_refl x) with h | h
  ·exact absurd h (UInt8.lt_irrefl x)
  ·rcases UInt8.le_total x y with h1 | h1
   ·rcases UInt8.lt_or_eq_of_le h1 with h2 | h2
    ·exact .inl (.inl h2)
    ·subst h2
     rcases qgy r s with h3 | h3 | h3
     ·exact .inl (.inr ⟨rfl, h3⟩)
     ·exact .inr (.inl ⟨rfl, h3⟩)
     ·exact .inr (.inr (.inr ⟨rfl, h3⟩))
   ·rcases UInt8.lt_or_eq_of_le h1 with h2 | h2
    ·exact .inr (.inr (.inl h2))
    ·subst h2
     rcases qgy r s with h3 | h3 | h3
     ·exact .inl (.inr ⟨rfl, h3⟩)
     ·exact .inr (.inl ⟨rfl, h3⟩)
     ·exact .inr (.inr (.inr ⟨rfl, h3⟩))
theorem qn0 {a b : Bs} (h : bytesBefore a b = true) : bytesBefore b a = false := by
 cases e : bytesBefore b a with
 |false => rfl
 |true => have := qgz h e; rw [qdv] at this; cases this
theorem qr7 {a b : Bs} (h : bytesBefore a b = true) : (a == b) = false := by
 rw [beq_eq_false_iff_ne]; rintro rfl; rw [qdv] at h; cases h
theorem qjr {a b : Bs} (h : bytesBefore a b = true) : (b == a) = false := by
 rw [beq_eq_false_iff_ne]; rintro rfl; rw [qdv] at h; cases h
def zi (L : KV) : Prop := L.Pairwise fun a b => bytesBefore a.1 b.1 = true
def qee : KV → Bs → Nat
 | [], _ => 0
 |p :: L, k => if bytesBefore p.1 k then qee L k + 1 else 0
def qbc : KV → Bs → Bool
 | [], _ => false
 |p :: L, k => if bytesBefore p.1 k then qbc L k else p.1 == k
def qhx (L : KV) (k v : Bs) (g : Bool) : KV := L.take (qee L k) ++ (if g then [] else [(k, v)]) ++ L.drop (if qbc L k then qee L k + 1 else qee L k)
theorem qjl {L : KV} {k : Bs} (h : ∀ p ∈ L, bytesBefore k p.1 = true) : jd L k = none ∧ qap L k = L := by
 constructor
 ·unfold jd
  rw [Option.map_eq_none_iff, List.find?_eq_none]
  intro p hp
  rw [qjr (h p hp)]; simp
 ·unfold qap
  rw [List.filter_eq_self]
  intro p hp
  rw [qjr (h p hp)]; rfl
theorem ql4 {L : KV} {k v : Bs} (h : ∀ p ∈ L, bytesBefore k p.1 = true) : ins k v L = (k, v) :: L := by
 cases L with
 |nil => rfl
 |cons p L => simp [ins, h p (.head _)]
theorem qlb {p : Bs × Bs} {L : KV} {k v : Bs} (h : bytesBefore p.1 k = true) : qbe (p :: L) k v = p :: qbe L k v := by
 simp [qbe, qr7 h, ins, qn0 h]
theorem qla {p : Bs × Bs} {L : KV} {k : Bs} (h : bytesBefore p.1 k = true) : qap (p :: L) k = p :: qap L k := by
 simp [qap, qr7 h]
theorem qfb {p : Bs × Bs} {L : KV} {k : Bs} (h : bytesBefore p.1 k = true) : jd (p :: L) k = jd L k := by
 simp [jd, qr7 h]
theorem qef : ∀ {L : KV} (_ : zi L) (k : Bs), qee L k ≤ L.length ∧ qbc L k = (jd L k).isSome ∧ (∀ v, jd L k = some v → L[qee L k]? = some (k, v)) ∧ (∀ v, qhx L k v true = qap L k) ∧ (∀ v, qhx L k v false = qbe L k v)
 | [], _, k => ⟨jy _, rfl, fun v h => by simp [jd] at h, fun v => rfl, fun v => rfl⟩
 |p :: L, hr, k => by
  obtain ⟨hp, hL⟩ := List.pairwise_cons.1 hr
  obtain ⟨i1, i2, i3, i4, i5⟩ := qef hL k
  unfold qhx at i4 i5 ⊢
  unfold qee qbc
  rcases qgy p.1 k with h | h | h
  ·simp only [h, if_true]
   refine ⟨by simp; omega, by rw [qfb h]; exact i2, fun v hv => by rw [qfb h] at hv; simpa using i3 v hv, fun v => ?_, fun v => ?_⟩
   ·rw [qla h, ← i4 v]
    cases qbc L k <;> simp
   ·rw [qlb h, ← i5 v]
    cases qbc L k <;> simp
  ·obtain ⟨pk, pv⟩ := p
   obtain rfl : pk = k := h
   obtain ⟨a1, a2⟩ := qjl hp
   rw [qdv]
   simp only [Bool.false_eq_true, if_false, beq_self_eq_true, if_true]
   refine ⟨xzl _, by simp [jd], fun v hv => by simp [jd] at hv; simp [hv], fun v => ?_, fun v => ?_⟩
   ·unfold qap at a2 ⊢
    simp [a2]
   ·unfold qap at a2
    unfold qbe
    simp [a2, ql4 hp]
  ·have hall : ∀ q ∈ p :: L, bytesBefore k q.1 = true := fun q hq => by
    rcases List.mem_cons.1 hq with rfl | hq
    ·exact h
    ·exact qgz h (hp q hq)
   obtain ⟨a1, a2⟩ := qjl hall
   simp only [qn0 h, Bool.false_eq_true, if_false]
   refine ⟨xzl _, (by rw [a1, qjr h]; rfl), fun v hv => (by rw [a1] at hv; cases hv), fun v => (by rw [a2, qjr h]; simp), fun v => ?_⟩
   rw [qjr h]
   unfold qbe
   have a2' := a2
   unfold qap at a2'
   rw [a2', ql4 hall]
   simp
theorem qm9 {k v : Bs} {q : Bs × Bs} : ∀ {L : KV}, q ∈ ins k v L → q = (k, v) ∨ q ∈ L
 | [], h => by simp [ins] at h; exact .inl h
 |p :: L, h => by
  unfold ins at h
  split at h
  ·rcases List.mem_cons.1 h with h | h
   ·exact .inl h
   ·exact .inr h
  ·rcases List.mem_cons.1 h with h | h
   ·exact .inr (h ▸ .head _)
   ·rcases qm9 h with h | h
    ·exact .inl h
    ·exact .inr (.tail _ h)
theorem qkj {k v : Bs} : ∀ {L : KV}, zi L → (∀ p ∈ L, (p.1 == k) = false) → zi (ins k v L)
 | [], _, _ => by simp [ins, zi]
 |p :: L, hr, hn => by
  obtain ⟨hp, hL⟩ := List.pairwise_cons.1 hr
  unfold ins
  split
  ·rename_i h
   exact List.pairwise_cons.2 ⟨fun q hq => by
    rcases List.mem_cons.1 hq with rfl | hq
    ·exact h
    ·exact qgz h (hp q hq), hr⟩
  ·rename_i h
   refine List.pairwise_cons.2 ⟨fun q hq => ?_, qkj hL fun q hq => hn q (.tail _ hq)⟩
   rcases qm9 hq with rfl | hq
   ·rcases qgy p.1 k with h1 | h1 | h1
    ·exact h1
    ·have := hn p (.head _); rw [h1] at this; simp at this
    ·exact absurd h1 h
   ·exact hp q hq
theorem qki {L : KV} (h : zi L) (k : Bs) : zi (qap L k) := h.filter _
theorem qrg {L : KV} (h : zi L) (k v : Bs) : zi (qbe L k v) := qkj (qki h k) fun p hp => by
 have := (List.mem_filter.1 hp).2
 simpa using this
theorem qgm (k v : Bs) : ∀ L : KV, (ins k v L).length = L.length + 1
 | [] => rfl
 |p :: L => by
  unfold ins
  split
  ·rfl
  ·simp [qgm k v L]
theorem qwg (L : KV) (k : Bs) : (qap L k).length ≤ L.length := List.length_filter_le _ _
theorem q6b (L : KV) (k v : Bs) : (qbe L k v).length ≤ L.length + 1 := by
 unfold qbe
 rw [qgm]
 have := qwg L k
 unfold qap at this
 omega
theorem q2b {L : KV} {k v : Bs} (h : (jd L k).isSome = true) : (qbe L k v).length ≤ L.length := by
 unfold qbe
 rw [qgm]
 have : (L.filter fun p => !(p.1 == k)).length < L.length := by
  unfold jd at h
  rw [Option.isSome_map, List.find?_isSome] at h
  obtain ⟨p, hp, h2⟩ := h
  exact List.length_filter_lt_length_iff_exists.2 ⟨p, hp, by simpa using h2⟩
 omega
theorem q1w {L : KV} {k v : Bs} {q : Bs × Bs} (h : q ∈ qbe L k v) : q = (k, v) ∨ q ∈ L := by
 rcases qm9 h with h | h
 ·exact .inl h
 ·exact .inr (List.mem_filter.1 h).1
theorem q1v {L : KV} {k : Bs} {q : Bs × Bs} (h : q ∈ qap L k) : q ∈ L := (List.mem_filter.1 h).1
def inB (s t : Bs) (p : Bs × Bs) : Bool := !bytesBefore p.1 s && (t.isEmpty || bytesBefore p.1 t)
end
section
open Go.RowKit Go.Maps
def flat (L : KV) : List Value := L.flatMap fun p => [sv p.1, sv p.2]
theorem qbk : flat [] = [] := rfl
theorem qby (p : Bs × Bs) (L : KV) : flat (p :: L) = sv p.1 :: sv p.2 :: flat L := rfl
theorem qb9 (A B : KV) : flat (A ++ B) = flat A ++ flat B := List.flatMap_append
theorem qdf (L : KV) : (flat L).length = L.length * 2 := by
 induction L with
 |nil => rfl
 |cons p L ih => rw [qby]; simp only [List.length_cons, ih]; omega
theorem qhv : ∀ (L : KV) (k : Nat), (flat L).take (k * 2) = flat (L.take k)
 | [], k => by simp [qbk]
 |p :: L, 0 => by simp [qbk]
 |p :: L, k + 1 => by
  rw [qby, List.take_succ_cons, qby, show (k + 1) * 2 = k * 2 + 1 + 1 by omega, List.take_succ_cons, List.take_succ_cons, qhv L k]
theorem qlz : ∀ (L : KV) (k : Nat), (flat L).drop (k * 2) = flat (L.drop k)
 | [], k => by simp [qbk]
 |p :: L, 0 => by simp
 |p :: L, k + 1 => by
  rw [qby, List.drop_succ_cons, show (k + 1) * 2 = k * 2 + 1 + 1 by omega, List.drop_succ_cons, List.drop_succ_cons, qlz L k]
theorem flat_get : ∀ (L : KV) (k : Nat) (p : Bs × Bs), L[k]? = some p → (flat L)[k * 2]? = some (sv p.1) ∧ (flat L)[k * 2 + 1]? = some (sv p.2)
 | [], k, p, h => by simp at h
 |q :: L, 0, p, h => by simp at h; subst h; exact ⟨rfl, rfl⟩
 |q :: L, k + 1, p, h => by
  rw [qby, show (k + 1) * 2 = k * 2 + 1 + 1 by omega]
  simpa using flat_get L k p (by simpa using h)
theorem qjy {L : KV} {x : Value} (h : x ∈ flat L) : ∃ s, x = .string s := by
 obtain ⟨p, _, h⟩ := List.mem_flatMap.1 h
 rcases List.mem_cons.1 h with rfl | h
 ·exact ⟨_, rfl⟩
 ·rcases List.mem_cons.1 h with rfl | h
  ·exact ⟨_, rfl⟩
  ·cases h
def qcf (w : World) (v : Value) : Prop := ∀ g, v.ownBlock = some g → ∃ cur ty, w.heap[g]? = some (.cells cur ty (0, 0)) ∧ ∀ x ∈ cur.toList, ∃ s, x = .string s
theorem qcf.nil (w : World) : qcf w (.slice none 0 0) := fun g h => by cases h
theorem qcf.block {w w' : World} {v : Value} (h : qcf w v) (k : ∀ g, v.ownBlock = some g → w'.heap[g]? = w.heap[g]?) : qcf w' v := fun g hg =>
 let ⟨cur, ty, h1, h2⟩ := h g hg
 ⟨cur, ty, (k g hg).trans h1, h2⟩
theorem qmb : ∃ i, Tryz.prog.info? 74 = some i ∧ i.zero = some (.agg #[.string ⟨#[]⟩, .string ⟨#[]⟩]) ∧ i.size = 2 ∧ i.bytes = 32 := by
 have h : (Tryz.prog.info? 74).map (fun i => (i.zero, i.size, i.bytes)) = some (some (.agg #[.string ⟨#[]⟩, .string ⟨#[]⟩]), 2, 32) := by kernel_rfl
 obtain ⟨i, h1, h2⟩ := Option.map_eq_some_iff.1 h
 injection h2 with h2 h3
 injection h3 with h3 h4
 exact ⟨i, h1, h2, h3, h4⟩
structure Src (w : World) (sa : Option Addr) (m : Nat) (news : List Value) : Prop where
 len : news.length = m * 2
 cell : ∀ ad, sa = some ad → ∀ j u, news[j]? = some u → w.cell? (ad.add j) = some u
 zero : sa = none → m = 0
 str : ∀ u ∈ news, ∃ s, u = .string s
theorem qlc {z : Array Value} {n : Nat} {x : Value} (hz : 0 < z.size) (h : x ∈ (Builtin.zeroCells z n).toList) : x ∈ z.toList := by
 unfold Builtin.zeroCells at h
 simp only [Array.mem_toList_iff] at h ⊢
 rw [Array.mem_map] at h
 obtain ⟨i, _, rfl⟩ := h
 have : i % z.size < z.size := Nat.mod_lt _ hz
 rw [getElem!_pos z _ this]
 exact Array.getElem_mem this
section
variable {w : World} {base n m c : Nat} {v : Value} {xs news : List Value} {sa : Option Addr}
theorem qst (ty : TypeId) (hown : w.ownsRow base 74 2 v n xs) (ha : qcf w v) (hs : Src w sa m news) (hb : n + m ≤ 1073741824) (hbase : base ≤ w.heap.size) :
  ∃ v' w', (Builtin.append_ #[47, 47] ty #[v, .slice sa m c]).run Tryz.prog w = .ok v' w' ∧ w'.ownsRow base 74 2 v' (n + m) (xs ++ news) ∧ qcf w' v' ∧ w.grownBy w' v.ownBlock := by
 obtain ⟨i, hi, hz, hsz, hby⟩ := qmb
 have ht : Tryz.prog.underlying 47 = some (.slice 74) := Tryz.underlying47
 have hlen : (xs ++ news).length = (n + m) * 2 := by rw [List.length_append, hown.1, hs.len, Nat.add_mul]
 have hl : news.length = m * i.size := by rw [hsz]; exact hs.len
 have one : ∀ u ∈ news, u.oneCell' = true := fun u hu => by obtain ⟨s, rfl⟩ := hs.str u hu; rfl
 have hxs : ∀ x ∈ xs, ∃ s, x = .string s := fun x hx => by
  rcases hown.2 with ⟨_, rfl⟩ | ⟨g, cap, cur, rfl, _, hg, _, _, _, htake⟩
  ·have : xs = [] := List.eq_nil_of_length_eq_zero (by simpa using hown.1)
   subst this; cases hx
  ·obtain ⟨cur', ty', h1, h2⟩ := ha g rfl
   rw [hg] at h1
   cases h1
   rw [← htake] at hx
   exact h2 x (List.mem_of_mem_take hx)
 have grown : ∀ (old : Nat), old < n + m → ∀ (row : Option Nat),
   (w.drew.alloc (.cells (xs.toArray ++ news.toArray ++ Builtin.zeroCells (Value.agg #[.string ⟨#[]⟩, .string ⟨#[]⟩]).cells (grownCap w (n + m) old 74 - (n + m))) 74)).ownsRow base 74 2
    (.slice (some ⟨w.heap.size, 0, none⟩) (n + m) (grownCap w (n + m) old 74)) (n + m) (xs ++ news) ∧
   qcf (w.drew.alloc (.cells (xs.toArray ++ news.toArray ++ Builtin.zeroCells (Value.agg #[.string ⟨#[]⟩, .string ⟨#[]⟩]).cells (grownCap w (n + m) old 74 - (n + m))) 74)) (.slice (some ⟨w.heap.size, 0, none⟩) (n + m) (grownCap w (n + m) old 74)) ∧
   w.grownBy (w.drew.alloc (.cells (xs.toArray ++ news.toArray ++ Builtin.zeroCells (Value.agg #[.string ⟨#[]⟩, .string ⟨#[]⟩]).cells (grownCap w (n + m) old 74 - (n + m))) 74)) row := by
  intro old ho row
  have hge := grownCap_ge w (n + m) old 74
  have hcm : grownCap w (n + m) old 74 ≤ maxLen := grownCap_le_maxLen w (n + m) old 74 (by unfold maxLen; omega)
  refine ⟨⟨hlen, .inr ⟨w.heap.size, _, _, rfl, hbase, heap_alloc_new w.drew _, hge, hcm, ?_, ?_⟩⟩, ?_, ⟨rfl, rfl, rfl, by simp, fun k hk _ => heap_alloc_old w.drew _ hk⟩⟩
  ·have : (Value.agg #[.string ⟨#[]⟩, .string ⟨#[]⟩]).cells.size = 2 := rfl
   have h1 := hown.1
   have h2 := hs.len
   rw [Array.size_append, Array.size_append, size_zeroCells, this, List.size_toArray, List.size_toArray]
   omega
  ·simp only [Array.toList_append, List.append_assoc]
   rw [← List.append_assoc, ← hlen]
   exact List.take_left
  ·intro g hg
   cases hg
   refine ⟨_, _, heap_alloc_new w.drew _, fun x hx => ?_⟩
   simp only [Array.toList_append, List.mem_append] at hx
   rcases hx with (hx | hx) | hx
   ·exact hxs x hx
   ·exact hs.str x hx
   ·have hx := qlc (by decide) hx
    have : x ∈ [Value.string ⟨#[]⟩, .string ⟨#[]⟩] := hx
    simp at this
    exact ⟨_, this⟩
 cases hsa : sa with
 |none =>
  have hm := hs.zero hsa
  subst hm
  have hn : news = [] := List.eq_nil_of_length_eq_zero (by simpa using hs.len)
  subst hn
  refine ⟨v, w, ?_, by simpa using hown, ha, ⟨rfl, rfl, rfl, jy _, fun _ _ _ => rfl⟩⟩
  rcases hown.2 with ⟨rfl, rfl⟩ | ⟨g, cap, cur, rfl, h1, h2, h3, h4, h5, h6⟩
  ·simp [Builtin.append_, run_underlying ht, sizeOf, typeInfo, hi, Builtin.lenOf, Builtin.firstCells, loadCells, loadCellsFrom]
  ·simp [Builtin.append_, run_underlying ht, sizeOf, typeInfo, hi, Builtin.lenOf, Builtin.firstCells, loadCells, loadCellsFrom, storeCells, h3]
 |some ad =>
  have hnews := hs.cell ad hsa
  rcases hown.2 with ⟨rfl, rfl⟩ | ⟨g, cap, cur, rfl, hbg, hg, hnc, hcm, hcs, htake⟩
  ·have hx : xs = [] := List.eq_nil_of_length_eq_zero (by simpa using hown.1)
   subst hx
   by_cases hm : m = 0
   ·subst hm
    have hn : news = [] := List.eq_nil_of_length_eq_zero (by simpa using hs.len)
    subst hn
    refine ⟨.slice none 0 0, w, ?_, by simpa using hown, ha, ⟨rfl, rfl, rfl, jy _, fun _ _ _ => rfl⟩⟩
    simp [Builtin.append_, run_underlying ht, sizeOf, typeInfo, hi, Builtin.lenOf, Builtin.firstCells, loadCells, loadCellsFrom]
   ·have hr := run_append_nil (P := Tryz.prog) w 47 ty 74 i _ ht hi hz ad m c news hl hnews (by omega) (by omega) (by rw [hby]; omega)
    have hgr := grown 0 (by omega) (Value.ownBlock (.slice none 0 0))
    simp only [Nat.zero_add, List.nil_append, Array.empty_append] at hgr ⊢
    exact ⟨_, _, hr, hgr.1, hgr.2.1, hgr.2.2⟩
  ·by_cases hroom : n + m ≤ cap
   ·have hfit : n * 2 + news.length ≤ cur.size := by rw [hs.len, hcs, ← Nat.add_mul]; exact Nat.mul_le_mul_right _ hroom
    have hr := run_append_room (P := Tryz.prog) w 47 ty 74 i ht hi g n cap cur hg ad m c news hl hnews one hroom (by rw [hsz]; exact hfit)
    rw [hsz] at hr
    have hblk := setRow_heap w g cur (cur.toList.take (n * 2) ++ news ++ cur.toList.drop (n * 2 + news.length)).toArray 74 _ hg
    refine ⟨_, _, hr, ⟨hlen, .inr ⟨g, cap, _, rfl, hbg, hblk, hroom, hcm, ?_, ?_⟩⟩, ?_, ⟨rfl, rfl, rfl, by simp, fun k _ hk => setRow_other w g k _ (fun e => hk (by simp [Value.ownBlock, e]))⟩⟩
    ·simp only [List.size_toArray, List.length_append, List.length_take, List.length_drop, Array.length_toList]
     omega
    ·rw [htake, ← hlen]
     exact List.take_left
    ·intro g' hg'
     cases hg'
     refine ⟨_, _, hblk, fun x hx => ?_⟩
     obtain ⟨cur', ty', h1, h2⟩ := ha g rfl
     rw [hg] at h1
     cases h1
     rcases List.mem_append.1 hx with hx | hx
     ·rcases List.mem_append.1 hx with hx | hx
      ·exact h2 x (List.mem_of_mem_take hx)
      ·exact hs.str x hx
     ·exact h2 x (List.mem_of_mem_drop hx)
   ·have holds : ∀ j u, xs[j]? = some u → w.cell? ((⟨g, 0, none⟩ : Addr).add j) = some u := hown.cells (g := g) rfl
    have hr := run_append_grow (P := Tryz.prog) w 47 ty 74 i _ ht hi hz ⟨g, 0, none⟩ n cap xs (by rw [hsz]; exact hown.1) holds ad m c news hl hnews (by omega) (by omega) (growslice_fits (by omega) (by rw [hby]; omega))
    have hgr := grown cap (by omega) (Value.ownBlock (.slice (some ⟨g, 0, none⟩) n cap))
    exact ⟨_, _, hr, hgr.1, hgr.2.1, hgr.2.2⟩
theorem j6 {ops : Array Oper} {rest : List Oper} {o : Oper} {a : Act} {Q : Exit → Act → World → Prop} (hgd : o.guard = none) (s x : Operand)
  (ho : o.op = .call { callee := .builtin .append, args := #[s, x], argTypes := #[47, 47] })
  (es : a.eval s = v) (ex : a.eval x = .slice sa m c) (hown : w.ownsRow base 74 2 v n xs) (ha : qcf w v) (hs : Src w sa m news) (hb : n + m ≤ 1073741824) (hbase : base ≤ w.heap.size)
  (h : ∀ v' w', w'.ownsRow base 74 2 v' (n + m) (xs ++ news) → qcf w' v' → w.grownBy w' v.ownBlock → wpList Tryz.prog ops Q rest (a.put o.dst v') w') : wpList Tryz.prog ops Q (o :: rest) a w :=
 wpList_plain hgd fun _ hK => by
  obtain ⟨v', w', hr, h2, h3, h4⟩ := qst (c := c) o.type hown ha hs hb hbase
  unfold Oper.wp execOp
  simp only [ho, resolve, invoke, builtin, Sem.run_bind, Sem.run_pure, Result.andThen_ok, List.map_toArray, List.map_cons, List.map_nil, es, ex, hr]
  exact hK _ _ (h v' w' h2 h3 h4)
end
theorem qdh : ∀ a b : Bs, Op.bytesLess a b = bytesBefore a b
 | [], [] => rfl
 | [], _ :: _ => rfl
 |_ :: _, [] => rfl
 |a :: x, b :: y => by simp [Op.bytesLess, bytesBefore, qdh x y]
theorem qr6 : ∀ {L : KV} {k : Bs} (i : Nat) (p : Bs × Bs), (∀ (j : Nat) (q : Bs × Bs), j < i → L[j]? = some q → bytesBefore q.1 k = true) → L[i]? = some p → bytesBefore p.1 k = false → qee L k = i ∧ qbc L k = (p.1 == k)
 | [], _, _, _, _, h, _ => by simp at h
 |q :: L, k, 0, p, _, h, hp => by
  simp at h; subst h
  unfold qee qbc
  simp [hp]
 |q :: L, k, i + 1, p, hj, h, hp => by
  have h0 := hj 0 q (by omega) rfl
  obtain ⟨h1, h2⟩ := qr6 (L := L) (k := k) i p (fun j q' hji hq => hj (j + 1) q' (by omega) (by simpa using hq)) (by simpa using h) hp
  unfold qee qbc
  rw [if_pos h0, if_pos h0, h1, h2]
  exact ⟨rfl, rfl⟩
theorem at_end : ∀ {L : KV} {k : Bs}, (∀ (j : Nat) (q : Bs × Bs), L[j]? = some q → bytesBefore q.1 k = true) → qee L k = L.length ∧ qbc L k = false
 | [], _, _ => ⟨rfl, rfl⟩
 |q :: L, k, h => by
  have h0 := h 0 q rfl
  obtain ⟨h1, h2⟩ := at_end (L := L) (k := k) fun j q' hq => h (j + 1) q' (by simpa using hq)
  unfold qee qbc
  rw [if_pos h0, if_pos h0, h1, h2]
  exact ⟨rfl, rfl⟩
theorem Below.drewN' {B : Nat} {a w : World} (h : Below B a w) (n : Nat) : Below B a (w.drewN n) := ⟨h.os, h.tape, h.output, h.size, h.block⟩
def qpv (w : World) (ix : Nat) (has : Bool) (e : Ending) (w' : World) : Prop := e = .returned (.tuple #[.int .i64 ix, .bool has]) ∧ Below w.heap.size w w'
section
variable {w : World} {L : KV}
theorem at_nil (k : ByteArray) : Calls Tryz.prog 51 #[.slice none 0 0, .string k] w (qpv w 0 false) := by
 go_enter Tryz.func51, Tryz.ntmps51
 go_wp2
 refine wp_loop_rounds 1 ?_
 rw [rounds_succ]
 go_wp2
 go_ret2
 exact ⟨rfl, jo _ _⟩
theorem q0l (k : ByteArray) {g cap : Nat} (hc : ∀ j (p : Bs × Bs), L[j]? = some p → w.cell? ⟨g, j * 2, none⟩ = some (sv p.1) ∧ w.cell? ⟨g, j * 2 + 1, none⟩ = some (sv p.2)) (hl : L.length ≤ 1073741824) : Calls Tryz.prog 51 #[.slice (some ⟨g, 0, none⟩) L.length cap, .string k] w (qpv w (qee L k.data.toList) (qbc L k.data.toList)) := by
 have HC := Lib.hid hc
 clear hc
 go_enter Tryz.func51, Tryz.ntmps51
 go_wp2
 go_loopw [10] (fun i wr => ∃ j : Nat, j ≤ L.length ∧ i = .int .i64 j ∧ Hid (∀ (i : Nat) (q : Bs × Bs), i < j → L[i]? = some q → bytesBefore q.1 k.data.toList = true) ∧ Below w.heap.size w wr) (fun i _ => L.length - (intOf i).toNat)
 case atStart => exact ⟨0, xzl _, rfl, Lib.hid (fun i q h => by omega), jo _ _⟩
 case round =>
  obtain ⟨j, hj, rfl, hlt, hb⟩ := hrel
  by_cases hjl : j < L.length
  ·obtain ⟨p, hp⟩ : ∃ p, L[j]? = some p := ⟨_, List.getElem?_eq_getElem hjl⟩
   obtain ⟨h0, h1⟩ := HC.out j p hp
   have h0 := (hb.cell (xbl w _ h0)).trans h0
   have h1 := (hb.cell (xbl w _ h1)).trans h1
   have ek : p.1 = (⟨p.1.toArray⟩ : ByteArray).toList := by rw [ByteArray.toList_eq]
   have ek2 : k.data.toList = k.toList := by rw [ByteArray.toList_eq]
   have hb2 : ∀ o, Below w.heap.size w (wr.alloc o) := fun o => hb.alloc hb.size _
   cases hlk : bytesBefore p.1 k.data.toList
   ·have hh := qr6 j p hlt hp hlk
    have HH := Lib.hid hh
    clear hh
    have hlk2 := hlk
    rw [ek, ek2, ← qdh] at hlk2
    have HE : Hid ((p.1 == k.data.toList) = ((⟨p.1.toArray⟩ : ByteArray).toList == k.toList)) := by rw [← ek, ← ek2]; rfl
    clear hlk ek ek2
    unfold sv at h0 h1
    generalize (⟨p.1.toArray⟩ : ByteArray) = pk at *
    generalize (⟨p.2.toArray⟩ : ByteArray) = pv at *
    go_wp2
    go_quiet (fail)
    go_wp2
    go_ret2
    refine ⟨?_, Below.drewN' (hb2 _) _⟩
    rw [HH.out.1, HH.out.2, HE]
    rfl
   ·have hlk2 := hlk
    rw [ek, ek2, ← qdh] at hlk2
    have HN : Hid (∀ (i : Nat) (q : Bs × Bs), i < j + 1 → L[i]? = some q → bytesBefore q.1 k.data.toList = true) := fun i q hi hq => by
     rcases Nat.lt_or_ge i j with h | h
     ·exact hlt i q h hq
     ·obtain rfl : i = j := by omega
      rw [hp] at hq; cases hq; exact hlk
    clear hlk ek ek2 hlt
    unfold sv at h0 h1
    generalize (⟨p.1.toArray⟩ : ByteArray) = pk at *
    generalize (⟨p.2.toArray⟩ : ByteArray) = pv at *
    go_wp2
    go_roundw
    case rel => exact ⟨j + 1, by omega, rfl, HN, hb2 _⟩
    case measure => simp [intOf]; omega
  ·have hh := at_end (L := L) (k := k.data.toList) fun i q hq => hlt i q (by have := (List.getElem?_eq_some_iff.1 hq).1; omega) hq
   have HH := Lib.hid hh
   clear hh hlt
   obtain rfl : j = L.length := by omega
   go_wp2
   go_ret2
   refine ⟨?_, hb⟩
   rw [HH.out.1, HH.out.2]
   rfl
end
def yh (w : World) (base : Nat) (v : Value) (L : KV) : Prop := w.ownsRow base 74 2 v L.length (flat L) ∧ qcf w v
def qje (w : World) (L : KV) (e : Ending) (w' : World) : Prop := ∃ v, e = .returned v ∧ yh w' w.heap.size v L ∧ Below w.heap.size w w'
section
variable {w : World} {L : KV}
theorem qp2 {v : Value} (h : w.ownsRow 0 74 2 v L.length (flat L)) (hl : L.length ≤ 1073741824) (k : ByteArray) : Calls Tryz.prog 51 #[v, .string k] w (qpv w (qee L k.data.toList) (qbc L k.data.toList)) := by
 rcases h.2 with ⟨rfl, hz⟩ | ⟨g, cap, cur, rfl, _⟩
 ·obtain rfl : L = [] := List.eq_nil_of_length_eq_zero hz
  exact at_nil k
 ·exact q0l k (fun j p hp => by
   obtain ⟨h1, h2⟩ := flat_get L j p hp
   have c1 := h.cells (g := g) rfl _ _ h1
   have c2 := h.cells (g := g) rfl _ _ h2
   rw [Addr.add_lit, Nat.zero_add] at c1 c2
   exact ⟨c1, c2⟩) hl
theorem qks (k : ByteArray) : sv k.data.toList = .string k := by unfold sv; simp
theorem qcf.alloc {v : Value} (h : qcf w v) (o : Obj) : qcf (w.alloc o) v := fun g hg => by
 obtain ⟨cur, ty, h1, h2⟩ := h g hg
 exact ⟨cur, ty, (heap_alloc_old w o (zx h1).1).trans h1, h2⟩
theorem Src.one (w : World) (a b : ByteArray) (ty : TypeId) : Src (w.alloc (.cells #[.string a, .string b] ty)) (some ⟨w.heap.size, 0, none⟩) 1 [.string a, .string b] := by
 refine ⟨rfl, fun ad e j u hj => ?_, fun h => (by cases h), fun u hu => by simp at hu; rcases hu with rfl | rfl <;> exact ⟨_, rfl⟩⟩
 cases e
 rw [Addr.add_lit, Nat.zero_add]
 match j, hj with
 |0, hj => simp at hj; subst hj; go_simp
 |1, hj => simp at hj; subst hj; go_simp
structure CA (cb : Nat) (k x : ByteArray) (g : Bool) (w : World) : Prop where
 c0 : w.cell? ⟨cb, 0, none⟩ = some (.string k)
 c1 : w.cell? ⟨cb, 1, none⟩ = some (.string x)
 c2 : w.cell? ⟨cb, 2, none⟩ = some (.bool g)
theorem CA.of {k x : ByteArray} {g : Bool} {ty : TypeId} {w1 : World} (hb : Below (w.alloc (.cells #[.string k, .string x, .bool g] ty)).heap.size (w.alloc (.cells #[.string k, .string x, .bool g] ty)) w1) : CA w.heap.size k x g w1 ∧ Below w.heap.size w w1 ∧ w.heap.size < w1.heap.size :=
 ⟨⟨(hb.cell (p := ⟨w.heap.size, 0, none⟩) (by simp)).trans (by go_simp), (hb.cell (p := ⟨w.heap.size, 1, none⟩) (by simp)).trans (by go_simp), (hb.cell (p := ⟨w.heap.size, 2, none⟩) (by simp)).trans (by go_simp)⟩,
  ((jo _ _).alloc (jy _) _).trans (hb.mono (by simp)), by have := hb.size; simp at this; omega⟩
theorem CA.grown {cb : Nat} {k x : ByteArray} {g : Bool} {w1 : World} {row : Option Nat} (h : CA cb k x g w) (hg : w.grownBy w1 row) (hne : some cb ≠ row) : CA cb k x g w1 :=
 ⟨hg.cell h.c0 hne, hg.cell h.c1 hne, hg.cell h.c2 hne⟩
theorem zo {a w1 : World} {B : Nat} {v : Value} {n base : Nat} {xs : List Value} (h : Below B a w) (hg : w.grownBy w1 v.ownBlock) (hr : w.ownsRow base 74 2 v n xs) (hb : B ≤ base) (hs : B ≤ w.heap.size) : Below B a w1 :=
 h.grown hg hs fun j hj => by have := (hr.lt j hj).1; omega
theorem q2i {v : Value} {g cap : Nat} (hr : yh w 0 v L) (hv : v = .slice (some ⟨g, 0, none⟩) L.length cap) {w' : World} (hb : Below w.heap.size w w') (i m : Nat) (him : i + m ≤ L.length) : Src w' (some ⟨g, i * 2, none⟩) m (flat ((L.drop i).take m)) := by
 subst hv
 have h := hr.1
 refine ⟨by rw [qdf, List.length_take, List.length_drop]; omega, fun ad e j u hj => ?_, fun h => (by cases h), fun u hu => qjy hu⟩
 cases e
 rw [← qhv, ← qlz] at hj
 have hjl : j < m * 2 := by
  have := (List.getElem?_eq_some_iff.1 hj).1
  rw [List.length_take] at this
  omega
 rw [List.getElem?_take_of_lt hjl, List.getElem?_drop] at hj
 have hc := h.cells (g := g) rfl _ _ hj
 rw [Addr.add_lit] at hc ⊢
 have hc : w.cell? ⟨g, i * 2 + j, none⟩ = some u := by simpa using hc
 exact (hb.cell (xbl w _ hc)).trans hc
theorem qdj {B b n : Nat} {v : Value} {xs : List Value} {L : KV} (h : w.ownsRow b 74 2 v n xs) (ha : qcf w v) (hB : B ≤ b) (e : xs = flat L) : yh w B v L := by
 have hn : n = L.length := by have := h.1; rw [e, qdf] at this; omega
 subst hn
 subst e
 exact ⟨⟨h.1, h.2.imp id fun ⟨g, cap, cur, h1, h2, h3⟩ => ⟨g, cap, cur, h1, xlt hB h2, h3⟩⟩, ha⟩
theorem qg2 {g i n cap : Nat} (h : n ≤ cap) : (if cap = i then (some ⟨g, 0, none⟩ : Option Addr) else some ⟨g, i * 2, none⟩) = some ⟨g, i * 2, none⟩ ∨ n - i = 0 ∧ ∃ a, (if cap = i then (some ⟨g, 0, none⟩ : Option Addr) else some ⟨g, i * 2, none⟩) = some a := by
 by_cases hc : cap = i
 ·rw [if_pos hc]; exact .inr ⟨by omega, _, rfl⟩
 ·rw [if_neg hc]; exact .inl rfl
theorem qi9 {g : Nat} {w' : World} {sa : Option Addr} (HS : ∀ w', Below w.heap.size w w' → ∀ i m, i + m ≤ L.length → Src w' (some ⟨g, i * 2, none⟩) m (flat ((L.drop i).take m))) (hb : Below w.heap.size w w') (i : Nat) (hle : i ≤ L.length)
  (hsa : sa = some ⟨g, i * 2, none⟩ ∨ (L.length - i = 0 ∧ ∃ a, sa = some a)) : Src w' sa (L.length - i) (flat (L.drop i)) := by
 rcases hsa with rfl | ⟨h0, a, rfl⟩
 ·have := HS w' hb i (L.length - i) (by omega)
  rwa [List.take_of_length_le (by rw [List.length_drop]; exact jy _)] at this
 ·have hd : L.drop i = [] := List.drop_eq_nil_of_le (by omega)
  rw [hd, h0]
  exact ⟨rfl, fun ad e j u hj => by simp [qbk] at hj, fun h => (by cases h), fun u hu => by simp [qbk] at hu⟩
theorem Src.nil {w : World} : Src w none 0 [] := ⟨rfl, fun ad e j u hj => by simp at hj, fun _ => rfl, fun u hu => by cases hu⟩
theorem qtr (k x : ByteArray) (gone : Bool) {g cap ix : Nat} {has : Bool} (hr : yh w 0 (.slice (some ⟨g, 0, none⟩) L.length cap) L) (hcap : L.length ≤ cap) (hl : L.length ≤ 1073741822) (hix : qee L k.data.toList = ix) (hhas : qbc L k.data.toList = has) (hle : ix ≤ L.length) (hlt : has = true → ix < L.length) :
  Calls Tryz.prog 52 #[.slice (some ⟨g, 0, none⟩) L.length cap, .agg #[.string k, .string x, .bool gone]] w (qje w (qhx L k.data.toList x.data.toList gone)) := by
 have hat := fun w' (hb : Below w.heap.size w w') => qp2 (w := w') (L := L) (v := .slice (some ⟨g, 0, none⟩) L.length cap) (by
  refine ⟨hr.1.1, hr.1.2.imp id ?_⟩
  rintro ⟨g, cap, cur, h1, h2, h3, h4⟩
  exact ⟨g, cap, cur, h1, h2, (hb.block g (zx h3).1).trans h3, h4⟩) (by omega) k
 rw [hix, hhas] at hat
 have HAT := Lib.hid hat
 have hs1 := fun w' (hb : Below w.heap.size w w') => q2i hr rfl hb
 have HS1 := Lib.hid hs1
 unfold qhx
 rw [hix, hhas]
 clear hat hix hhas hs1
 have HR := Lib.hid hr
 clear hr
 have HQ : Hid (0 + ix + (L.length - ix) ≤ 1073741824 ∧ 0 + ix + (L.length - (ix + 1)) ≤ 1073741824 ∧ 0 + ix + 1 + (L.length - ix) ≤ 1073741824 ∧ 0 + ix + 1 + (L.length - (ix + 1)) ≤ 1073741824) := by refine ⟨?_, ?_, ?_, ?_⟩ <;> omega
 have HL : Hid (has = true → ix + 1 ≤ L.length) := hlt
 clear hlt
 cases has
 case' true => have q90 : ix + 1 ≤ L.length := HL.out rfl
 all_goals cases gone
 all_goals
  go_enter Tryz.func52, Tryz.ntmps52
  go_wp2_with (first
   |(go_at_call 51; refine (HAT.out _ ((jo _ _).alloc (jy _) _)).mono ?_; rintro e w1 ⟨rfl, hb1⟩; have H1 := Lib.hid (CA.of hb1); obtain ⟨c0, c1, c2⟩ := H1.out.1; clear hb1)
   |(at_builtin; refine j6 (v := .slice none 0 0) rfl (.const (.slice none 0 0)) (.tmp 17) rfl rfl rfl (World.ownsRow_nil _ w1.heap.size _ _) (qcf.nil _) (HS1.out _ H1.out.2.1 0 ix (by omega)) (by omega) (jy _) ?_; intro v2 w2 hrow2 qj0 hg2; have H2 := Lib.hid (H1.out.1.grown hg2 (fun e => by cases e)); obtain ⟨c20, c21, c22⟩ := H2.out; have HZ2 := Lib.hid (xlt (jy w1.heap.size) hg2.size); have HR2 := Lib.hid hrow2; have HA2 := Lib.hid qj0; have HB2 := Lib.hid (H1.out.2.1.grown hg2 (Nat.le_of_lt H1.out.2.2) (fun j hj => by cases hj)); clear hrow2 qj0 hg2)
   |(at_builtin; refine j6 (v := v2) rfl (.tmp 22) (.tmp 28) rfl rfl rfl (HR2.out.alloc _) (HA2.out.alloc _) (Src.one w2 k x _) (by omega) (xlt HZ2.out (by simp)) ?_; intro v3 w3 hrow3 qca hg3; have HR3 := Lib.hid hrow3; have HA3 := Lib.hid qca; have HB3 := Lib.hid (zo (HB2.out.alloc HB2.out.size _) hg3 (HR2.out.alloc _) (Nat.le_of_lt H1.out.2.2) (xlt HB2.out.size (by simp))); have HZ3 := Lib.hid (xlt HZ2.out (xlt (by simp) hg3.size)); clear hrow3 qca hg3)
   |(at_builtin; refine j6 (v := v3) rfl (.tmp 33) (.tmp 36) rfl rfl rfl HR3.out HA3.out (qi9 HS1.out HB3.out ix hle (qg2 hcap)) HQ.out.2.2.1 HZ3.out ?_; intro v4 w4 hrow4 qdg hg4; have hb4 := zo HB3.out hg4 HR3.out (Nat.le_of_lt H1.out.2.2) HB3.out.size; have HE4 := Lib.hid (And.intro (And.intro hrow4 qdg) hb4); clear hrow4 qdg hg4 hb4)
   |(at_builtin; refine j6 (v := v3) rfl (.tmp 33) (.tmp 36) rfl rfl rfl HR3.out HA3.out (qi9 HS1.out HB3.out (ix + 1) q90 (qg2 hcap)) HQ.out.2.2.2 HZ3.out ?_; intro v4 w4 hrow4 qdg hg4; have hb4 := zo HB3.out hg4 HR3.out (Nat.le_of_lt H1.out.2.2) HB3.out.size; have HE4 := Lib.hid (And.intro (And.intro hrow4 qdg) hb4); clear hrow4 qdg hg4 hb4)
   |(at_builtin; refine j6 (v := v2) rfl (.tmp 33) (.tmp 36) rfl rfl rfl HR2.out HA2.out (qi9 HS1.out HB2.out ix hle (qg2 hcap)) HQ.out.1 HZ2.out ?_; intro v4 w4 hrow4 qdg hg4; have hb4 := zo HB2.out hg4 HR2.out (Nat.le_of_lt H1.out.2.2) HB2.out.size; have HE4 := Lib.hid (And.intro (And.intro hrow4 qdg) hb4); clear hrow4 qdg hg4 hb4)
   |(at_builtin; refine j6 (v := v2) rfl (.tmp 33) (.tmp 36) rfl rfl rfl HR2.out HA2.out (qi9 HS1.out HB2.out (ix + 1) q90 (qg2 hcap)) HQ.out.2.1 HZ2.out ?_; intro v4 w4 hrow4 qdg hg4; have hb4 := zo HB2.out hg4 HR2.out (Nat.le_of_lt H1.out.2.2) HB2.out.size; have HE4 := Lib.hid (And.intro (And.intro hrow4 qdg) hb4); clear hrow4 qdg hg4 hb4)
   )
  all_goals go_ret
  all_goals exact ⟨v4, rfl, qdj HE4.out.1.1 HE4.out.1.2 (Nat.le_of_lt H1.out.2.2) (by simp [qb9, qby, qbk, qks]; try rw [← qb9, List.take_append_drop]), HE4.out.2⟩
theorem qwk (k x : ByteArray) : Calls Tryz.prog 52 #[.slice none 0 0, .agg #[.string k, .string x, .bool false]] w (qje w [(k.data.toList, x.data.toList)]) := by
 have HAT := Lib.hid (fun w' => at_nil (w := w') k)
 go_enter Tryz.func52, Tryz.ntmps52
 go_wp2_with (first
  |(go_at_call 51; refine (HAT.out _).mono ?_; rintro e w1 ⟨rfl, hb1⟩; have H1 := Lib.hid (CA.of hb1); obtain ⟨c0, c1, c2⟩ := H1.out.1; clear hb1)
  |(at_builtin; refine j6 (v := .slice none 0 0) (sa := none) (m := 0) (news := []) rfl (.const (.slice none 0 0)) (.tmp 17) rfl rfl rfl (World.ownsRow_nil _ w1.heap.size _ _) (qcf.nil _) Src.nil (by omega) (jy _) ?_; intro v2 w2 hrow2 qj0 hg2; have H2 := Lib.hid (H1.out.1.grown hg2 (fun e => by cases e)); obtain ⟨c20, c21, c22⟩ := H2.out; have HZ2 := Lib.hid (xlt (jy w1.heap.size) hg2.size); have HR2 := Lib.hid hrow2; have HA2 := Lib.hid qj0; have HB2 := Lib.hid (H1.out.2.1.grown hg2 (Nat.le_of_lt H1.out.2.2) (fun j hj => by cases hj)); clear hrow2 qj0 hg2)
  |(at_builtin; refine j6 (v := v2) rfl (.tmp 22) (.tmp 28) rfl rfl rfl (HR2.out.alloc _) (HA2.out.alloc _) (Src.one w2 k x _) (by omega) (xlt HZ2.out (by simp)) ?_; intro v3 w3 hrow3 qca hg3; have HR3 := Lib.hid hrow3; have HA3 := Lib.hid qca; have HB3 := Lib.hid (zo (HB2.out.alloc HB2.out.size _) hg3 (HR2.out.alloc _) (Nat.le_of_lt H1.out.2.2) (xlt HB2.out.size (by simp))); have HZ3 := Lib.hid (xlt HZ2.out (xlt (by simp) hg3.size)); clear hrow3 qca hg3)
  |(at_builtin; refine j6 (v := v3) (sa := none) (m := 0) (news := []) rfl (.tmp 33) (.tmp 36) rfl rfl rfl HR3.out HA3.out Src.nil (by omega) HZ3.out ?_; intro v4 w4 hrow4 qdg hg4; have hb4 := zo HB3.out hg4 HR3.out (Nat.le_of_lt H1.out.2.2) HB3.out.size; have HE4 := Lib.hid (And.intro (And.intro hrow4 qdg) hb4); clear hrow4 qdg hg4 hb4)
  )
 all_goals go_ret
 all_goals exact ⟨v4, rfl, qdj HE4.out.1.1 HE4.out.1.2 (Nat.le_of_lt H1.out.2.2) (by simp [qby, qbk, qks]), HE4.out.2⟩
end
theorem q6o (c : Nat) : shd c = if c < 104 then 0 else if c < 110 then 1 else if c < 117 then 2 else 3 := by
 unfold shd
 by_cases h1 : c ≤ 103
 ·rw [if_pos h1, if_pos (show c < 104 by omega)]
 ·rw [if_neg h1, if_neg (show ¬ c < 104 by omega)]
  by_cases h2 : c ≤ 109
  ·rw [if_pos h2, if_pos (show c < 110 by omega)]
  ·rw [if_neg h2, if_neg (show ¬ c < 110 by omega)]
   by_cases h3 : c ≤ 116
   ·rw [if_pos h3, if_pos (show c < 117 by omega)]
   ·rw [if_neg h3, if_neg (show ¬ c < 117 by omega)]
def qix (x : Int) (w : World) (e : Ending) (w' : World) : Prop := e = .returned (.int .i64 x) ∧ Below w.heap.size w w'
section
variable {w : World}
theorem quj (s : ByteArray) (h : s.size = 0 ∨ 8 < s.size) : Calls Tryz.prog 50 #[.string s] w (qix (-1) w) := by
 rcases h with h | h
 ·have hs1 : decide ((s.size : Int) < 1) = true := by simp; omega
  go_enter Tryz.func50, Tryz.ntmps50
  go_wp2
  go_ret
  exact ⟨rfl, jo _ _⟩
 ·have hs1 : decide ((s.size : Int) < 1) = false := by simp; omega
  have hs2 : decide ((8 : Int) < s.size) = true := by simp; omega
  go_enter Tryz.func50, Tryz.ntmps50
  go_wp2
  go_ret
  exact ⟨rfl, jo _ _⟩
theorem qhe (s : ByteArray) (h : qaz s.data.toList = true) : Calls Tryz.prog 50 #[.string s] w (qix (ji s.data.toList) w) := by
 simp only [qaz, Bool.and_eq_true, decide_eq_true_eq, List.all_eq_true, qj8] at h
 obtain ⟨h0, h8, hl⟩ := h
 have h0 : 0 < s.size := by simpa using h0
 have h8 : s.size ≤ 8 := by simpa using h8
 have hs1 : decide ((s.size : Int) < 1) = false := by simp; omega
 have hs2 : decide ((8 : Int) < s.size) = false := by simp; omega
 have hh : ji s.data.toList = shd (s[0]'h0).toNat := by
  unfold ji
  cases e : s.data.toList with
  |nil =>
   have : s.data.toList.length = s.size := by simp
   rw [e] at this; simp at this; omega
  |cons a l =>
   have : s[0] = a := by
    have h1 : s[0] = s.data.toList[0]'(by simpa using h0) := by simp [ByteArray.getElem_eq_getElem_data]
    rw [h1]; simp [e]
   rw [this]; rfl
 rw [hh]
 have HL := Lib.hid hl
 clear hl hh
 go_enter Tryz.func50, Tryz.ntmps50
 go_wp2
 go_loopw [3] (fun i w' => ∃ k : Nat, k ≤ s.size ∧ i = .int .i64 k ∧ w' = w) (fun i _ => s.size - (intOf i).toNat)
 case atStart => exact ⟨0, xzl _, rfl, rfl⟩
 case round =>
  obtain ⟨k, hk, rfl, rfl⟩ := hrel
  by_cases hp : k < s.size
  ·have hlt := HL.out (s[k]'hp) (by simp [ByteArray.getElem_eq_getElem_data])
   have g1 : decide (((s[k]'hp).toNat : Int) < 97) = false := by simp; omega
   have g2 : decide ((122 : Int) < ((s[k]'hp).toNat : Int)) = false := by simp; omega
   go_wp2
   go_roundw
   case rel => exact ⟨k + 1, by omega, rfl, trivial⟩
   case measure => simp [intOf]; omega
  ·obtain rfl : k = s.size := by omega
   have hlt := HL.out (s[0]'h0) (by simp [ByteArray.getElem_eq_getElem_data])
   have h104 : (s[0]'h0).toNat < 104 ∨ (104 ≤ (s[0]'h0).toNat ∧ (s[0]'h0).toNat < 110) ∨ (110 ≤ (s[0]'h0).toNat ∧ (s[0]'h0).toNat < 117) ∨ 117 ≤ (s[0]'h0).toNat := by omega
   have he : ∀ o, Below wr.heap.size wr (wr.alloc o) := fun o => (jo _ _).alloc (jy _) o
   have HE := Lib.hid he
   clear he
   have dec : ∀ n : Int, n ≤ ((s[0]'h0).toNat : Int) → decide (n ≤ ((s[0]'h0).toNat : Int)) = true := fun n h => xdt h
   have ded : ∀ n : Int, ((s[0]'h0).toNat : Int) < n → decide (n ≤ ((s[0]'h0).toNat : Int)) = false := fun n h => xdf (by omega)
   have HS := Lib.hid (q6o (s[0]'h0).toNat)
   rcases h104 with h | ⟨h, h'⟩ | ⟨h, h'⟩ | h
   ·have g1 := ded 104 (by omega)
    have g2 := ded 110 (by omega)
    have g3 := ded 117 (by omega)
    have HS := Lib.hid (HS.out.trans (if_pos h))
    go_wp2
    refine wp_loop_rounds 4 ?_
    rw [rounds_succ]; go_wp2; rw [rounds_succ]; go_wp2; rw [rounds_succ]; go_wp2; rw [rounds_succ]; go_wp2
    go_ret
    exact ⟨by rw [HS.out]; rfl, HE.out _⟩
   ·have g1 := dec 104 (by omega)
    have g2 := ded 110 (by omega)
    have g3 := ded 117 (by omega)
    have HS := Lib.hid (HS.out.trans ((if_neg (by omega)).trans (if_pos h')))
    go_wp2
    refine wp_loop_rounds 4 ?_
    rw [rounds_succ]; go_wp2; rw [rounds_succ]; go_wp2; rw [rounds_succ]; go_wp2; rw [rounds_succ]; go_wp2
    go_ret
    exact ⟨by rw [HS.out]; rfl, HE.out _⟩
   ·have g1 := dec 104 (by omega)
    have g2 := dec 110 (by omega)
    have g3 := ded 117 (by omega)
    have HS := Lib.hid (HS.out.trans ((if_neg (by omega)).trans ((if_neg (by omega)).trans (if_pos h'))))
    go_wp2
    refine wp_loop_rounds 4 ?_
    rw [rounds_succ]; go_wp2; rw [rounds_succ]; go_wp2; rw [rounds_succ]; go_wp2; rw [rounds_succ]; go_wp2
    go_ret
    exact ⟨by rw [HS.out]; rfl, HE.out _⟩
   ·have g1 := dec 104 (by omega)
    have g2 := dec 110 (by omega)
    have g3 := dec 117 (by omega)
    have HS := Lib.hid (HS.out.trans ((if_neg (by omega)).trans ((if_neg (by omega)).trans (if_neg (by omega)))))
    go_wp2
    refine wp_loop_rounds 4 ?_
    rw [rounds_succ]; go_wp2; rw [rounds_succ]; go_wp2; rw [rounds_succ]; go_wp2; rw [rounds_succ]; go_wp2
    go_ret
    exact ⟨by rw [HS.out]; rfl, HE.out _⟩
theorem q2h (s : ByteArray) (h0 : 0 < s.size) (h8 : s.size ≤ 8) (hl : ¬ s.data.toList.all letter = true) : Calls Tryz.prog 50 #[.string s] w (qix (-1) w) := by
 have hs1 : decide ((s.size : Int) < 1) = false := by simp; omega
 have hs2 : decide ((8 : Int) < s.size) = false := by simp; omega
 have HL := Lib.hid hl
 clear hl
 go_enter Tryz.func50, Tryz.ntmps50
 go_wp2
 go_loopw [3] (fun i w' => ∃ k : Nat, k ≤ s.size ∧ i = .int .i64 k ∧ w' = w ∧ Hid ((s.data.toList.take k).all letter = true)) (fun i _ => s.size - (intOf i).toNat)
 case atStart => exact ⟨0, xzl _, rfl, rfl, Lib.hid (by simp)⟩
 case round =>
  obtain ⟨k, hk, rfl, rfl, HA⟩ := hrel
  by_cases hp : k < s.size
  ·by_cases h1 : (s[k]'hp).toNat < 97
   ·have g1 : decide (((s[k]'hp).toNat : Int) < 97) = true := by simp; omega
    go_wp2
    go_ret
    exact ⟨rfl, jo _ _⟩
   ·have g1 : decide (((s[k]'hp).toNat : Int) < 97) = false := by simp; omega
    by_cases h2 : 122 < (s[k]'hp).toNat
    ·have g2 : decide ((122 : Int) < ((s[k]'hp).toNat : Int)) = true := by simp; omega
     go_wp2
     go_ret
     exact ⟨rfl, jo _ _⟩
    ·have g2 : decide ((122 : Int) < ((s[k]'hp).toNat : Int)) = false := by simp; omega
     have hlt : letter s[k] = true := by simp [letter]; omega
     have HN : Hid ((s.data.toList.take (k + 1)).all letter = true) := Lib.hid (by rw [qf6 s k hp, HA.out, hlt]; rfl)
     clear hlt
     go_wp2
     go_roundw
     case rel => exact ⟨k + 1, by omega, rfl, trivial, HN⟩
     case measure => simp [intOf]; omega
  ·exact absurd (by have e := HA.out; rwa [List.take_of_length_le (by simp; omega)] at e) HL.out
theorem qy5 (s : ByteArray) (h : qaz s.data.toList = false) : Calls Tryz.prog 50 #[.string s] w (qix (-1) w) := by
 by_cases h0 : s.size = 0 ∨ 8 < s.size
 ·exact quj s h0
 ·refine q2h s (by omega) (by omega) fun hl => ?_
  have : qaz s.data.toList = true := by
   simp only [qaz, Bool.and_eq_true, decide_eq_true_eq]
   exact ⟨by simp; omega, by simp; omega, hl⟩
  rw [h] at this; cases this
end
structure qbj (w : World) (cl n : Nat) (db mb : Nat) (mv : Option Addr) (L : KV) : Prop where
 d : w.cell? ⟨cl, 1 + n * 3 + 1, none⟩ = some (.pointer (some ⟨db, 0, none⟩))
 v : w.cell? ⟨cl, 1 + n * 3 + 2, none⟩ = some (.pointer mv)
 m : w.cell? ⟨db, 0, none⟩ = some (.map (some mb))
 l : j4 w mb L
theorem qbj.block {w w' : World} {cl n db mb : Nat} {mv : Option Addr} {L : KV} (h : qbj w cl n db mb mv L) (k : ∀ b, b = cl ∨ b = db ∨ b = mb → w'.heap[b]? = w.heap[b]?) : qbj w' cl n db mb mv L :=
 ⟨(xcb (k _ (.inl rfl))).trans h.d, (xcb (k _ (.inl rfl))).trans h.v, (xcb (k _ (.inr (.inl rfl)))).trans h.m, h.l.block (k _ (.inr (.inr rfl)))⟩
theorem qbj.lt {w : World} {cl n db mb : Nat} {mv : Option Addr} {L : KV} (h : qbj w cl n db mb mv L) : cl < w.heap.size ∧ db < w.heap.size ∧ mb < w.heap.size :=
 ⟨xbl w _ h.d, xbl w _ h.m, h.l.lt⟩
theorem qbj.below {w w' : World} {cl n db mb : Nat} {mv : Option Addr} {L : KV} (h : qbj w cl n db mb mv L) (k : Below w.heap.size w w') : qbj w' cl n db mb mv L :=
 h.block fun b hb => k.block b (by have := h.lt; rcases hb with rfl | rfl | rfl <;> omega)
def q4q (x : Int) (w : World) (e : Ending) (w' : World) : Prop := e = .returned (.int .i64 x) ∧ Below w.heap.size w w'
section
variable {w : World} {cl db mb : Nat} {L : KV}
theorem qp8 (k v : ByteArray) (g : Bool) (h : qaz k.data.toList = false) (hs : k.size ≤ maxLen) : Calls Tryz.prog 40 #[.pointer (some ⟨cl, 0, none⟩), .agg #[.string k, .string v, .bool g]] w (q4q 2 w) := by
 go_enter Tryz.func40, Tryz.ntmps40
 go_wp2_with (go_at_call 41; refine (q4b _ _ h hs).mono ?_; rintro e w1 ⟨rfl, hb⟩)
 go_ret
 exact ⟨rfl, ((jo _ _).alloc (jy _) _).trans (hb.mono (by simp))⟩
structure ChW (cb cl n db mb : Nat) (mv : Option Addr) (L : KV) (k v : ByteArray) (g : Bool) (w : World) : Prop where
 c0 : w.cell? ⟨cb, 0, none⟩ = some (.string k)
 c1 : w.cell? ⟨cb, 1, none⟩ = some (.string v)
 c2 : w.cell? ⟨cb, 2, none⟩ = some (.bool g)
 d : w.cell? ⟨cl, 1 + n * 3 + 1, none⟩ = some (.pointer (some ⟨db, 0, none⟩))
 v : w.cell? ⟨cl, 1 + n * 3 + 2, none⟩ = some (.pointer mv)
 m : w.cell? ⟨db, 0, none⟩ = some (.map (some mb))
 l : j4 w mb L
theorem ChW.of {n : Nat} {mv : Option Addr} {k v : ByteArray} {g : Bool} {w1 : World} (hp : qbj w cl n db mb mv L) (hb : Below (w.alloc (.cells #[.string k, .string v, .bool g] 87)).heap.size (w.alloc (.cells #[.string k, .string v, .bool g] 87)) w1) :
  ChW w.heap.size cl n db mb mv L k v g w1 ∧ Below w.heap.size w w1 := by
 have hb0 : Below w.heap.size w w1 := ((jo _ _).alloc (jy _) _).trans (hb.mono (by simp))
 obtain ⟨pd, pv, pm, pl⟩ := hp.below hb0
 exact ⟨⟨(hb.cell (p := ⟨w.heap.size, 0, none⟩) (by simp)).trans (by go_simp), (hb.cell (p := ⟨w.heap.size, 1, none⟩) (by simp)).trans (by go_simp), (hb.cell (p := ⟨w.heap.size, 2, none⟩) (by simp)).trans (by go_simp), pd, pv, pm, pl⟩, hb0⟩
theorem ChW.below {cb n : Nat} {mv : Option Addr} {k v : ByteArray} {g : Bool} {w1 : World} (h : ChW cb cl n db mb mv L k v g w) (hb : Below w.heap.size w w1) : ChW cb cl n db mb mv L k v g w1 :=
 ⟨(hb.cell (xbl w _ h.c0)).trans h.c0, (hb.cell (xbl w _ h.c1)).trans h.c1, (hb.cell (xbl w _ h.c2)).trans h.c2, (hb.cell (xbl w _ h.d)).trans h.d, (hb.cell (xbl w _ h.v)).trans h.v, (hb.cell (xbl w _ h.m)).trans h.m, h.l.block (hb.block _ h.l.lt)⟩
theorem ChW.but {cb n : Nat} {mv : Option Addr} {k v : ByteArray} {g : Bool} {w1 : World} {L' : KV} (h : ChW cb cl n db mb mv L k v g w) (hb : But (· = mb) w w1) (hm : j4 w1 mb L') : ChW cb cl n db mb mv L' k v g w1 := by
 have ne : ∀ {b o : Nat} {x : Value}, w.cell? ⟨b, o, none⟩ = some x → b ≠ mb := fun {b o x} hx e => by
  obtain ⟨es, ck, hb, _⟩ := h.l
  subst e
  unfold World.cell? at hx
  rw [hb] at hx
  cases hx
 have cell : ∀ {b o : Nat} {x : Value}, w.cell? ⟨b, o, none⟩ = some x → w1.cell? ⟨b, o, none⟩ = some x := fun hx => (xcb (hb.keep _ (xbl w _ hx) (ne hx))).trans hx
 exact ⟨cell h.c0, cell h.c1, cell h.c2, cell h.d, cell h.v, cell h.m, hm⟩
theorem ChW.drew {cb n : Nat} {mv : Option Addr} {k v : ByteArray} {g : Bool} (h : ChW cb cl n db mb mv L k v g w) : ChW cb cl n db mb mv L k v g w.drew := h.below (w1 := w.drew) ⟨rfl, rfl, rfl, jy _, fun _ _ => rfl⟩
theorem qm8 {w : World} {db mb : Nat} {L : KV} (hd : w.cell? ⟨db, 0, none⟩ = some (.map (some mb))) (hm : j4 w mb L) : Calls Tryz.prog 68 #[.pointer (some ⟨db, 0, none⟩)] w fun e w' => e = .returned (.int .i64 L.length) ∧ w = w' :=
 (jav hd hm).mono fun _ _ h => ⟨h.1, h.2.symm⟩
def q4h (w : World) (mb : Nat) (L : KV) (c : Int) (e : Ending) (w' : World) : Prop := e = .returned (.int .i64 c) ∧ j4 w' mb L ∧ But (· = mb) w w'
theorem qwx {mv : Option Addr} {W : World} {n : Nat} {k v : ByteArray} {g : Bool} {w1 : World} {A B : Prop} (h : A ∧ B ∧ Hid (ChW W.heap.size cl n db mb mv L k v g w1 ∧ Below W.heap.size W w1)) (hk : k.size ≤ maxLen) :
  Calls Tryz.prog 42 #[.pointer (some ⟨db, 0, none⟩), .string k] w1 fun e w' => (e = .returned (.tuple #[sv ((jd L k.data.toList).getD []), .bool (jd L k.data.toList).isSome])) ∧ ChW W.heap.size cl n db mb mv L k v g w' ∧ Below W.heap.size W w' :=
 (qww h.2.2.out.1.m h.2.2.out.1.l k hk).mono fun e w' ⟨h1, h2⟩ => ⟨h1, h.2.2.out.1.below h2, h.2.2.out.2.trans (h2.mono h.2.2.out.2.size)⟩
def xu (L : KV) (k v : Bs) (g : Bool) : Int := if 12 < v.length then 3 else if !g && !(jd L k).isSome && L.length == 12 then 4 else if g && !(jd L k).isSome then 6 else 0
def chL (L : KV) (k v : Bs) (g : Bool) : KV := if xu L k v g = 0 then (if g then qap L k else qbe L k v) else L
theorem qmt {L : KV} {k v : Bs} {g : Bool} (h : 12 < v.length) : xu L k v g = 3 ∧ chL L k v g = L := by
 have : xu L k v g = 3 := by unfold xu; rw [if_pos h]
 exact ⟨this, by unfold chL; rw [this]; rfl⟩
theorem qmu {L : KV} {k v : Bs} {g : Bool} (h : ¬ 12 < v.length) :
  (g = false → (jd L k).isSome = false → L.length = 12 → xu L k v g = 4 ∧ chL L k v g = L) ∧ (g = false → ((jd L k).isSome = true ∨ L.length ≠ 12) → xu L k v g = 0 ∧ chL L k v g = qbe L k v) ∧
  (g = true → (jd L k).isSome = false → xu L k v g = 6 ∧ chL L k v g = L) ∧ (g = true → (jd L k).isSome = true → xu L k v g = 0 ∧ chL L k v g = qap L k) := by
 unfold chL xu
 rw [if_neg h]
 refine ⟨fun h1 h2 h3 => ?_, fun h1 h2 => ?_, fun h1 h2 => ?_, fun h1 h2 => ?_⟩
 ·subst h1; simp [h2, h3]
 ·subst h1; rcases h2 with h2 | h2 <;> simp [h2]
 ·subst h1; simp [h2]
 ·subst h1; simp [h2]
theorem qp9 (k v : ByteArray) (g : Bool) (n : Nat) (hn : n < 4) (hk : qaz k.data.toList = true) (hkn : ji k.data.toList = n) (hks : k.size ≤ maxLen) (hL : L.length ≤ 12) (hp : qbj w cl n db mb none L) :
  Calls Tryz.prog 40 #[.pointer (some ⟨cl, 0, none⟩), .agg #[.string k, .string v, .bool g]] w (q4h w mb (chL L k.data.toList v.data.toList g) (xu L k.data.toList v.data.toList g)) := by
 have hn3 : ((n : Int) < 4) := by omega
 go_enter Tryz.func40, Tryz.ntmps40
 go_wp2_with (go_at_call 41; refine (qnb _ _ hk).mono ?_; rintro e w1 ⟨rfl, hb⟩; rw [hkn])
 obtain ⟨hc1, hb0⟩ := ChW.of hp hb
 clear hb hp
 have HB0 := Lib.hid hb0
 have HC1 := Lib.hid hc1
 obtain ⟨c0, c1, c2, pd, pv, pm, pl⟩ := id hc1
 clear hb0 hc1 pl
 go_region_held3 (fun w' => w'.cell? ⟨cl, 1 + n * 3 + 1, none⟩ = some (.pointer (some ⟨db, 0, none⟩)) ∧ w'.cell? ⟨w.heap.size, 0, none⟩ = some (.string k) ∧ Hid (ChW w.heap.size cl n db mb none L k v g w' ∧ Below w.heap.size w w'))
  (first | exact ⟨pd, c0, Lib.hid ⟨HC1.out.drew, HB0.out.drew⟩⟩ | exact ⟨(HC2.out.1).d, (HC2.out.1).c0, HC2⟩)
  (first | (go_at_call 42; refine (qwx (by assumption) hks).mono ?_; rintro e w2 ⟨rfl, hc2⟩; have HC2 := Lib.hid hc2; clear hc2))
 obtain ⟨has, hhas⟩ : ∃ b, (jd L k.data.toList).isSome = b := ⟨_, rfl⟩
 rw [hhas]
 have HF := Lib.hid hhas
 clear hhas
 generalize sv ((jd L k.data.toList).getD []) = gv
 obtain ⟨e0, e1, e2, ed, ev, em, el⟩ := HC2.out.1
 have EL := Lib.hid el
 have HB2 := Lib.hid (But.of_below (B := (· = mb)) HC2.out.2)
 clear el
 by_cases hbig : 12 < v.size
 ·have HE := Lib.hid (qmt (L := L) (k := k.data.toList) (g := g) (v := v.data.toList) (by simpa using hbig))
  have g1 : decide ((12 : Int) < v.size) = true := by simp; omega
  go_wp2
  go_ret
  exact ⟨by rw [HE.out.1]; rfl, by rw [HE.out.2]; exact EL.out, HB2.out⟩
 have HG := Lib.hid (qmu (L := L) (k := k.data.toList) (g := g) (v := v.data.toList) (by simpa using hbig))
 rw [HF.out] at HG
 have g1 : decide ((12 : Int) < v.size) = false := by simp; omega
 cases g
 ·cases has
  ·by_cases hfull : L.length = 12
   ·have HE := Lib.hid (HG.out.1 rfl rfl hfull)
    go_wp2_with (go_at_call 68; refine (qm8 em EL.out).mono ?_; rintro e w' ⟨rfl, rfl⟩)
    go_ret
    exact ⟨by rw [HE.out.1]; rfl, by rw [HE.out.2]; exact EL.out, HB2.out⟩
   ·have HE := Lib.hid (HG.out.2.1 rfl (.inr hfull))
    go_wp2_with (go_at_call 68; refine (qm8 em EL.out).mono ?_; rintro e w' ⟨rfl, rfl⟩)
    refine wp_region_still_tail 5 (by kernel_rfl) (by kernel_rfl) ?_
    change wpStill _ _ w2.drew (fun a' => wpList _ _ _ _ a' w2.drew) _ _
    simp only [List.take_succ_cons, List.take_zero, List.drop_succ_cons, List.drop_zero]
    repeat still_step
    refine wpStill_nil ?_
    go_wp2_with (go_at_call 69; refine (qmz (w := w2.drew) em (EL.out.block rfl) (by omega) k v hks).mono ?_; rintro e w3 ⟨rfl, hm3, hb3⟩; have HC3 := Lib.hid (HC2.out.1.drew.but hb3 hm3); have HB3 := Lib.hid (HB2.out.drew.trans hb3); obtain ⟨f0, f1, f2, fd, fv, fm, fl⟩ := HC3.out; clear fl hm3 hb3)
    go_ret
    exact ⟨by rw [HE.out.1]; rfl, by rw [HE.out.2]; exact HC3.out.l, HB3.out⟩
  ·have HE := Lib.hid (HG.out.2.1 rfl (.inl rfl))
   go_wp2
   refine wp_region_still_tail 5 (by kernel_rfl) (by kernel_rfl) ?_
   change wpStill _ _ w2.drew (fun a' => wpList _ _ _ _ a' w2.drew) _ _
   simp only [List.take_succ_cons, List.take_zero, List.drop_succ_cons, List.drop_zero]
   repeat still_step
   refine wpStill_nil ?_
   go_wp2_with (go_at_call 69; refine (qmz (w := w2.drew) em (EL.out.block rfl) (by omega) k v hks).mono ?_; rintro e w3 ⟨rfl, hm3, hb3⟩; have HC3 := Lib.hid (HC2.out.1.drew.but hb3 hm3); have HB3 := Lib.hid (HB2.out.drew.trans hb3); obtain ⟨f0, f1, f2, fd, fv, fm, fl⟩ := HC3.out; clear fl hm3 hb3)
   go_ret
   exact ⟨by rw [HE.out.1]; rfl, by rw [HE.out.2]; exact HC3.out.l, HB3.out⟩
 ·cases has
  ·have HE := Lib.hid (HG.out.2.2.1 rfl rfl)
   go_wp2
   go_ret
   exact ⟨by rw [HE.out.1]; rfl, by rw [HE.out.2]; exact EL.out, HB2.out⟩
  ·have HE := Lib.hid (HG.out.2.2.2 rfl rfl)
   go_wp2
   refine wp_region_still_tail 5 (by kernel_rfl) (by kernel_rfl) ?_
   change wpStill _ _ w2.drew (fun a' => wpList _ _ _ _ a' w2.drew) _ _
   simp only [List.take_succ_cons, List.take_zero, List.drop_succ_cons, List.drop_zero]
   repeat still_step
   refine wpStill_nil ?_
   go_wp2_with (go_at_call 69; refine (qwj (w := w2.drew) em (EL.out.block rfl) k v hks).mono ?_; rintro e w3 ⟨rfl, hm3, hb3⟩; have HC3 := Lib.hid (HC2.out.1.drew.but hb3 hm3); have HB3 := Lib.hid (HB2.out.drew.trans hb3); obtain ⟨f0, f1, f2, fd, fv, fm, fl⟩ := HC3.out; clear fl hm3 hb3)
   go_ret
   exact ⟨by rw [HE.out.1]; rfl, by rw [HE.out.2]; exact HC3.out.l, HB3.out⟩
end
structure Clu (w : World) (cl : Nat) (db mb : Nat → Nat) (L : Nat → KV) : Prop where
 p : ∀ i, i < 4 → ∃ mv, qbj w cl i (db i) (mb i) mv (L i)
 ne : ∀ i j, i < 4 → j < 4 → mb i = mb j → i = j
 len : ∀ i, i < 4 → (L i).length ≤ 12
def qaf (L : Nat → KV) (n : Nat) (x : KV) : Nat → KV := fun i => if i = n then x else L i
theorem qc0 (k : Bs) : ji k < 4 := by
 unfold ji shd
 split
 ·decide
 ·split
  ·decide
  ·split <;> decide
theorem q0r {L : KV} {k v : Bs} {g : Bool} (h : L.length ≤ 12) : (chL L k v g).length ≤ 12 := by
 unfold chL
 split
 ·rename_i hc
  split
  ·exact xlt (qwg L k) h
  ·rename_i hg
   have hg : g = false := by simpa using hg
   subst hg
   by_cases hh : (jd L k).isSome = true
   ·exact xlt (q2b hh) h
   ·have hh : (jd L k).isSome = false := by simpa using hh
    have := q6b L k v
    unfold xu at hc
    rw [hh] at hc
    split at hc
    ·cases hc
    ·by_cases h12 : L.length = 12
     ·simp [h12] at hc
     ·omega
 ·exact h
section
variable {w w' : World} {cl : Nat} {db mb : Nat → Nat} {L : Nat → KV}
def qqo (L : Nat → KV) (k : Bs) : Bs := if qaz k then (jd (L (ji k)) k).getD [] else []
def qqn (L : Nat → KV) (k : Bs) : Int := if qaz k then (if (jd (L (ji k)) k).isSome then 0 else 6) else 2
def qe5 (w : World) (v : Bs) (c : Int) (e : Ending) (w' : World) : Prop := e = .returned (.tuple #[sv v, .int .i64 c]) ∧ Below w.heap.size w w'
theorem q1g (h : Clu w cl db mb L) (k : ByteArray) (hs : k.size ≤ maxLen) :
  Calls Tryz.prog 19 #[.pointer (some ⟨cl, 0, none⟩), .string k] w (qe5 w (qqo L k.data.toList) (qqn L k.data.toList)) := by
 have HH := Lib.hid h
 clear h
 cases hk : qaz k.data.toList
 ·have HK := Lib.hid hk
  clear hk
  go_enter Tryz.func19, Tryz.ntmps19
  go_wp2_with (go_at_call 41; refine (q4b _ _ HK.out hs).mono ?_; rintro e w1 ⟨rfl, hb⟩)
  go_ret2
  unfold qqo qqn
  rw [HK.out]
  exact ⟨rfl, hb⟩
 ·have HK := Lib.hid hk
  clear hk
  have hn := qc0 k.data.toList
  obtain ⟨mv, hp⟩ := HH.out.p _ hn
  have HG : Hid (qqo L k.data.toList = (jd (L (ji k.data.toList)) k.data.toList).getD [] ∧ qqn L k.data.toList = if (jd (L (ji k.data.toList)) k.data.toList).isSome then 0 else 6) := by
   unfold qqo qqn; rw [HK.out]; exact ⟨rfl, rfl⟩
  generalize hnn : ji k.data.toList = n at *
  have HN := Lib.hid hnn
  have HP := Lib.hid hp
  obtain ⟨x, hx⟩ : ∃ x, jd (L n) k.data.toList = x := ⟨_, rfl⟩
  rw [hx] at HG
  have HX := Lib.hid hx
  clear hp hnn hx
  have hn3 : ((n : Int) < 4) := by omega
  cases x
  all_goals
   go_enter Tryz.func19, Tryz.ntmps19
   go_wp2_with (first
    |(go_at_call 41; refine (qnb _ _ HK.out).mono ?_; rintro e w1 ⟨rfl, hb⟩; rw [HN.out]; have HP1 := Lib.hid (HP.out.below hb); have HB1 := Lib.hid hb; obtain ⟨pd, pv, pm, pl⟩ := HP1.out; clear hb pl)
    |(go_at_call 42; refine (qww pm HP1.out.l k hs).mono ?_; rintro e w2 ⟨rfl, hb2⟩; rw [HX.out]; have HB2 := Lib.hid (HB1.out.trans (hb2.mono HB1.out.size)); clear hb2))
   go_ret2
   exact ⟨by rw [HG.out.1, HG.out.2]; rfl, HB2.out⟩
end
structure Mdl (w : World) (ml sb : Nat) (lv : Nat → Value) (mp : Nat → Option Addr) (L : Nat → KV) : Prop where
 s : ∃ cap, w.cell? ⟨ml, 1, none⟩ = some (.slice (some ⟨sb, 0, none⟩) 4 cap)
 t : ∃ mc, w.heap[ml]? = some (.cells mc 101 (0, 0))
 b : ∃ cur, w.heap[sb]? = some (.cells cur 104 (0, 0)) ∧ ∀ i, i < 4 → cur[i * 3 + 1]? = some (lv i) ∧ cur[i * 3 + 2]? = some (.pointer (mp i)) ∧ ∃ o : Int, cur[i * 3]? = some (.int .i64 o)
 r : ∀ i, i < 4 → yh w 0 (lv i) (L i)
def qo {α : Type} (L : Nat → α) (n : Nat) (x : α) : Nat → α := fun i => if i = n then x else L i
theorem ja {α : Type} (L : Nat → α) (n : Nat) (x : α) : qo L n x n = x := by unfold qo; rw [if_pos rfl]
theorem qy {α : Type} (L : Nat → α) {n i : Nat} (x : α) (h : i ≠ n) : qo L n x i = L i := by unfold qo; rw [if_neg h]
section
variable {w w' : World} {ml sb : Nat} {lv : Nat → Value} {mp : Nat → Option Addr} {L : Nat → KV}
theorem Mdl.lts (h : Mdl w ml sb lv mp L) : ml < w.heap.size ∧ sb < w.heap.size := by
 obtain ⟨mc, h1⟩ := h.t
 obtain ⟨cur, h2, _⟩ := h.b
 exact ⟨(zx h1).1, (zx h2).1⟩
theorem Mdl.cl (h : Mdl w ml sb lv mp L) {i : Nat} (hi : i < 4) : w.cell? ⟨sb, i * 3 + 1, none⟩ = some (lv i) ∧ w.cell? ⟨sb, i * 3 + 2, none⟩ = some (.pointer (mp i)) ∧ w.frozen? ⟨sb, i * 3 + 1, none⟩ = false := by
 obtain ⟨cur, h1, h2⟩ := h.b
 obtain ⟨h3, h4, _⟩ := h2 i hi
 exact ⟨by simp [World.cell?, h1, h3], by simp [World.cell?, h1, h4], by simp [World.frozen?, h1]⟩
theorem Mdl.owner (h : Mdl w ml sb lv mp L) {i : Nat} (hi : i < 4) : ∃ o : Int, w.cell? ⟨sb, i * 3, none⟩ = some (.int .i64 o) := by
 obtain ⟨cur, h1, h2⟩ := h.b
 obtain ⟨_, _, o, h3⟩ := h2 i hi
 exact ⟨o, by simp [World.cell?, h1, h3]⟩
theorem yh.block {v : Value} {l : KV} (h : yh w 0 v l) (k : ∀ g, v.ownBlock = some g → w'.heap[g]? = w.heap[g]?) : yh w' 0 v l := by
 refine ⟨⟨h.1.1, h.1.2.imp id ?_⟩, h.2.block k⟩
 rintro ⟨g, cap, cur, rfl, h1, h2, h3⟩
 exact ⟨g, cap, cur, rfl, h1, (k g rfl).trans h2, h3⟩
theorem yh.ty {v : Value} {l : KV} {b : Nat} (h : yh w b v l) {g : Nat} (hg : v.ownBlock = some g) : ∃ cur, w.heap[g]? = some (.cells cur 74 (0, 0)) := by
 rcases h.1.2 with ⟨rfl, _⟩ | ⟨g', cap, cur, rfl, _, h2, _⟩
 ·cases hg
 ·cases hg; exact ⟨cur, h2⟩
theorem Mdl.below (h : Mdl w ml sb lv mp L) (hb : Below w.heap.size w w') : Mdl w' ml sb lv mp L := by
 obtain ⟨l1, l2⟩ := h.lts
 obtain ⟨cap, h1⟩ := h.s
 obtain ⟨mc, h2⟩ := h.t
 obtain ⟨cur, h3, h4⟩ := h.b
 exact ⟨⟨cap, (hb.cell l1).trans h1⟩, ⟨mc, (hb.block _ l1).trans h2⟩, ⟨cur, (hb.block _ l2).trans h3, h4⟩, fun i hi => (h.r i hi).block fun g hg => hb.block g (let ⟨c, e⟩ := (h.r i hi).ty hg; (zx e).1)⟩
theorem qwl {v : Value} {l : KV} (hr : yh w 0 v l) (hl : l.length ≤ 1073741822) (hri : zi l) (k x : ByteArray) (g : Bool) (hg : g = true → qbc l k.data.toList = true) :
  Calls Tryz.prog 52 #[v, .agg #[.string k, .string x, .bool g]] w (qje w (if g then qap l k.data.toList else qbe l k.data.toList x.data.toList)) := by
 obtain ⟨a1, a2, a3, a4, a5⟩ := qef hri k.data.toList
 have e : (if g then qap l k.data.toList else qbe l k.data.toList x.data.toList) = qhx l k.data.toList x.data.toList g := by
  cases g
  ·exact (a5 _).symm
  ·exact (a4 _).symm
 rw [e]
 rcases hr.1.2 with ⟨rfl, hz⟩ | ⟨b, cap, cur, rfl, _, _, hc, _⟩
 ·obtain rfl : l = [] := List.eq_nil_of_length_eq_zero hz
  cases g
  ·exact qwk k x
  ·have := hg rfl; simp [qbc] at this
 ·refine qtr k x g hr hc hl rfl rfl a1 fun h => ?_
  rw [a2] at h
  obtain ⟨v, hv⟩ := Option.isSome_iff_exists.1 h
  exact (List.getElem?_eq_some_iff.1 (a3 v hv)).1
end
end
end Go.Proofs.YtkpekiajdlolnabGreat
