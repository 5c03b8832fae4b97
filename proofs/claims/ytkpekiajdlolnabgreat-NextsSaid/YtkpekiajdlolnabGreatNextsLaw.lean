/-
  PROVED: 'rebalancelaw.Nexts' returns true: every Next of a script, to the byte, answers as the document's. Conditions: none.
-/
import Derived.Test.YtkpekiajdlolnabGreatM05
import Derived.Test.YtkpekiajdlolnabGreatM08
set_option linter.unusedVariables false
set_option linter.unusedSimpArgs false
namespace Go.Proofs.YtkpekiajdlolnabGreat.nexts
open Go.ChangeShapes Go.WideShapes Go.ChangeAt Go.RowKit Go.Conc Go.ConcN Go Go.Proofs.YtkpekiajdlolnabGreat.Ph Go.Proofs.YtkpekiajdlolnabGreat.Sim

theorem law_run {W : World} {sp : Option Addr} {L cp : Nat} {os : Nat → OpV} {kv : List Value} (hS : yj W.heap.size W sp L os) :
    qf (fun b => b < W.heap.size) kv [] (Frame.enter XG.P 3 #[.slice sp L cp] .normal) W [] (Ret 3 fun v w' => v = .bool true ∧ But (fun b => W.heap.size ≤ b) W w') :=
  jal (c := 9) rfl Tryz.func3 rfl rfl rfl ⟨rfl, rfl, rfl⟩ ⟨rfl, rfl, rfl⟩ ⟨rfl, rfl, rfl⟩ ⟨rfl, rfl, rfl⟩ ⟨rfl, rfl, rfl⟩ ⟨rfl, rfl, rfl⟩ ⟨rfl, rfl, rfl⟩ ⟨rfl, rfl, rfl⟩ ⟨rfl, rfl, rfl⟩ ⟨rfl, rfl, rfl⟩ hS
    fun w1 _ hL => ⟨StA w1.heap.size w1, q57 hS.ok hL (by decide) (by decide), StA.new w1⟩
set_option maxRecDepth 100000 in
theorem lifted (os : Os) (started : os.Started) (H : Type) (enc : TypeId × Value → H) :
    ReturnsInLeavingWide {} Tryz.checked os 3 .any (Rows.nextsSpec.pre6 enc Tryz.prog Tryz.f3 Rows.nextsRow.domain false) (Rows.nextsSpec.post enc Tryz.prog Tryz.f3 false true false false) := by
  refine returnsInLeavingWide_of_change_sized (C := Tryz.checked) qyo started Tryz.func3
    (ChangeSpec.witness6 (enc := enc) (C := Tryz.checked) false ⟨#[], #[.slice none 0 0], []⟩ 8 (by kernel_rfl) (by kernel_rfl) (by kernel_rfl) (by kernel_rfl)) ?_
  intro W base args ds gs before hval0 hW _ hsz0 _
  have hsz : (DataW.weightsEach Tryz.prog (Tryz.f3.params.toList ++ Rows.nextsSpec.plain.varTypes Tryz.prog) (ds ++ gs)).all (· ≤ reachBytes) = true := hsz0
  clear hsz0
  have hval : ∀ (j : Nat) t v, Tryz.f3.params[j]? = some t → args[j]? = some v → Value.okWide Tryz.prog W .any base t v := hval0
  have hW' := hW
  obtain ⟨p, q, hA0, hV, rfl, _, _⟩ := hW
  have hA : DataW.TrodAll enc Tryz.prog W 0 (fun _ => true) true Tryz.f3.params.toList args.toList ds p := hA0
  rw [Tryz.params3] at hA hval hsz
  obtain ⟨v0, d0, rfl, rfl, h0⟩ := trodAll_one hA
  obtain ⟨rfl, rfl⟩ := trodVars_none hV
  have hv0 := hval 0 22 v0 rfl rfl
  obtain ⟨a0, len, cap, rfl⟩ := okWide_slice Tryz.underlying22 hv0
  clear hA0 hval0
  simp only [List.append_nil] at hW'
  have hlt : ∀ x ∈ p, x.block < W.heap.size := fun x hx => by simpa using hW'.lt x hx
  obtain ⟨os', hS⟩ := quu h0 hv0 hsz hlt
  refine qxp (f := 3) rfl (by kernel_rfl) (law_run hS) fun w' hb => ?_
  exact ⟨_, _, _, [], p, [], hW', trodAll_cons_mk (shut_bool Tryz.underlying4 _) trodAll_mk0, trodAll_mk1 (qv6 (by kernel_rfl) (of_decide_eq_true (by kernel_rfl)) h0 hb hlt), rfl, qtl hb _, fun h => by cases h⟩
theorem over : Rows.nextsRow.holds Tryz.pinned (OpenSpec.ofChange Rows.nextsSpec) :=
  OpenClaim.holds_of_wide_leaving 3 Tryz.f3 rfl rfl rfl rfl rfl rfl rfl ⟨rfl, rfl, rfl, rfl, rfl⟩ rfl rfl rfl rfl rfl (by kernel_rfl) Tryz.func3 (by kernel_rfl)
    (of_decide_eq_true (by kernel_rfl)) (by unfold Func.isWrapper; first | (rw [if_pos (by decide +kernel)]; kernel_rfl) | (rw [if_neg (by decide +kernel)]; exact ⟨rfl, rfl⟩))
    (fun os started H enc _ => lifted os started H enc)
theorem proved : Rows.NextsSaid :=
  over
#print axioms proved
end Go.Proofs.YtkpekiajdlolnabGreat.nexts
