/-
  PROVED: 'rebalancelaw.Replies' returns true: every Reply of a script answers as the document's. Conditions: none.
-/
import Derived.Test.YtkpekiajdlolnabGreatM04
import Derived.Test.YtkpekiajdlolnabGreatM08
set_option linter.unusedVariables false
set_option linter.unusedSimpArgs false
namespace Go.Proofs.YtkpekiajdlolnabGreat.replies
open Go.ChangeShapes Go.WideShapes Go.ChangeAt Go.RowKit Go.Conc Go.ConcN Go Go.Proofs.YtkpekiajdlolnabGreat.Ph Go.Proofs.YtkpekiajdlolnabGreat.Sim

theorem law_run {W : World} {sp : Option Addr} {L cp : Nat} {os : Nat → OpV} {kv : List Value} (hS : wH W.heap.size W sp L os) :
    qg (fun b => b < W.heap.size) kv [] (Frame.enter XG.P fR #[.slice sp L cp] .normal) W [] (Ret fR fun v w' => v = .bool true ∧ But (fun b => W.heap.size ≤ b) W w') :=
  jl4 hS fun w1 _ hL => ⟨StA _ w1.heap.size w1, jg3 hS.ok hL, StA.new _ w1⟩
set_option maxRecDepth 100000 in
theorem lifted (os : Os) (started : os.Started) (H : Type) (enc : TypeId × Value → H) :
    ReturnsInLeavingWide {} Tryz.checked os 6 .any (Rows.repliesSpec.pre6 enc Tryz.prog Tryz.f6 Rows.repliesRow.domain false) (Rows.repliesSpec.post enc Tryz.prog Tryz.f6 false true false false) := by
  refine returnsInLeavingWide_of_change_sized (C := Tryz.checked) q7o started Tryz.func6
    (ChangeSpec.witness6 (enc := enc) (C := Tryz.checked) false ⟨#[], #[.slice none 0 0], []⟩ 8 (by kernel_rfl) (by kernel_rfl) (by kernel_rfl) (by kernel_rfl)) ?_
  intro W base args ds gs before DI hW _ KZ _
  have fC : (DataW.weightsEach Tryz.prog (Tryz.f6.params.toList ++ Rows.repliesSpec.plain.varTypes Tryz.prog) (ds ++ gs)).all (· ≤ reachBytes) = true := KZ
  clear KZ
  have BV : ∀ (j : Nat) t v, Tryz.f6.params[j]? = some t → args[j]? = some v → Value.okWide Tryz.prog W .any base t v := DI
  have Hu := hW
  obtain ⟨p, q, hA0, hV, rfl, _, _⟩ := hW
  have hA : DataW.TrodAll enc Tryz.prog W 0 (fun _ => true) true Tryz.f6.params.toList args.toList ds p := hA0
  rw [Tryz.params6] at hA BV fC
  obtain ⟨v0, d0, rfl, rfl, h0⟩ := trodAll_one hA
  obtain ⟨rfl, rfl⟩ := trodVars_none hV
  have Df := BV 0 22 v0 rfl rfl
  obtain ⟨a0, len, cap, rfl⟩ := okWide_slice Tryz.underlying22 Df
  clear hA0 DI
  simp only [List.append_nil] at Hu
  have eZ : ∀ x ∈ p, x.block < W.heap.size := fun x hx => by simpa using Hu.lt x hx
  obtain ⟨os', hS⟩ := q2r h0 Df fC eZ
  refine q6i (f := 6) rfl (by kernel_rfl) (law_run hS) fun w' hb => ?_
  exact ⟨_, _, _, [], p, [], Hu, trodAll_cons_mk (shut_bool Tryz.underlying4 _) trodAll_mk0, trodAll_mk1 (q4m (by kernel_rfl) (of_decide_eq_true (by kernel_rfl)) h0 hb eZ), rfl, q04 hb _, fun h => by cases h⟩
theorem over : Rows.repliesRow.holds Tryz.pinned (OpenSpec.ofChange Rows.repliesSpec) :=
  OpenClaim.holds_of_wide_leaving 6 Tryz.f6 rfl rfl rfl rfl rfl rfl rfl ⟨rfl, rfl, rfl, rfl, rfl⟩ rfl rfl rfl rfl rfl (by kernel_rfl) Tryz.func6 (by kernel_rfl)
    (of_decide_eq_true (by kernel_rfl)) (by unfold Func.isWrapper; first | (rw [if_pos (by decide +kernel)]; kernel_rfl) | (rw [if_neg (by decide +kernel)]; exact ⟨rfl, rfl⟩))
    (fun os started H enc _ => lifted os started H enc)
theorem proved : Rows.RepliesSaid :=
  over
#print axioms proved
end Go.Proofs.YtkpekiajdlolnabGreat.replies
