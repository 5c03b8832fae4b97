/-
  PROVED: 'rebalancelaw.Restarts' returns true: every Restart of a script answers as the document's. Conditions: none.
-/
import Derived.Test.YtkpekiajdlolnabGreatM04
import Derived.Test.YtkpekiajdlolnabGreatM07
set_option linter.unusedVariables false
set_option linter.unusedSimpArgs false
namespace Go.Proofs.YtkpekiajdlolnabGreat.restarts
open Go.ChangeShapes Go.WideShapes Go.ChangeAt Go.RowKit Go.Conc Go.ConcN Go Go.Proofs.YtkpekiajdlolnabGreat.Ph Go.Proofs.YtkpekiajdlolnabGreat.Sim

theorem law_run {W : World} {sp : Option Addr} {L cp : Nat} {os : Nat → OpV} {kv : List Value} (hS : sJ W.heap.size W sp L os) :
    qf (fun b => b < W.heap.size) kv [] (Frame.enter XG.P 5 #[.slice sp L cp] .normal) W [] (Ret 5 fun v w' => v = .bool true ∧ But (fun b => W.heap.size ≤ b) W w') :=
  YP (c := 12) rfl Tryz.func5 rfl rfl rfl ⟨rfl, rfl, rfl⟩ ⟨rfl, rfl, rfl⟩ ⟨rfl, rfl, rfl⟩ ⟨rfl, rfl, rfl⟩ ⟨rfl, rfl, rfl⟩ ⟨rfl, rfl, rfl⟩ ⟨rfl, rfl, rfl⟩ ⟨rfl, rfl, rfl⟩ ⟨rfl, rfl, rfl⟩ ⟨rfl, rfl, rfl⟩ hS
    fun w1 _ hL => ⟨StA _ w1.heap.size w1, XA hS.ok hL (by decide) (by decide), StA.new _ w1⟩
set_option maxRecDepth 100000 in
theorem lifted (os : Os) (started : os.Started) (H : Type) (enc : TypeId × Value → H) :
    ReturnsInLeavingWide {} Tryz.checked os 5 .any (Rows.restartsSpec.pre6 enc Tryz.prog Tryz.f5 Rows.restartsRow.domain false) (Rows.restartsSpec.post enc Tryz.prog Tryz.f5 false true false false) := by
  refine returnsInLeavingWide_of_change_sized (C := Tryz.checked) Va started Tryz.func5
    (ChangeSpec.witness6 (enc := enc) (C := Tryz.checked) false ⟨#[], #[.slice none 0 0], []⟩ 8 (by kernel_rfl) (by kernel_rfl) (by kernel_rfl) (by kernel_rfl)) ?_
  intro W base args ds gs before rJ hW _ yC _
  have fC : (DataW.weightsEach Tryz.prog (Tryz.f5.params.toList ++ Rows.restartsSpec.plain.varTypes Tryz.prog) (ds ++ gs)).all (· ≤ reachBytes) = true := yC
  clear yC
  have tX : ∀ (j : Nat) t v, Tryz.f5.params[j]? = some t → args[j]? = some v → Value.okWide Tryz.prog W .any base t v := rJ
  have zV := hW
  obtain ⟨p, q, Jl, hV, rfl, _, _⟩ := hW
  have hA : DataW.TrodAll enc Tryz.prog W 0 (fun _ => true) true Tryz.f5.params.toList args.toList ds p := Jl
  rw [Tryz.params5] at hA tX fC
  obtain ⟨v0, d0, rfl, rfl, h0⟩ := trodAll_one hA
  obtain ⟨rfl, rfl⟩ := trodVars_none hV
  have xL := tX 0 22 v0 rfl rfl
  obtain ⟨a0, len, cap, rfl⟩ := okWide_slice Tryz.underlying22 xL
  clear Jl rJ
  simp only [List.append_nil] at zV
  have eH : ∀ x ∈ p, x.block < W.heap.size := fun x hx => by simpa using zV.lt x hx
  obtain ⟨os', hS⟩ := Wi h0 xL fC eH
  refine Vv (f := 5) rfl (by kernel_rfl) (law_run hS) fun w' hb => ?_
  exact ⟨_, _, _, [], p, [], zV, trodAll_cons_mk (shut_bool Tryz.underlying4 _) trodAll_mk0, trodAll_mk1 (VB (by kernel_rfl) (of_decide_eq_true (by kernel_rfl)) h0 hb eH), rfl, Wt hb _, fun h => by cases h⟩
theorem over : Rows.restartsRow.holds Tryz.pinned (OpenSpec.ofChange Rows.restartsSpec) :=
  OpenClaim.holds_of_wide_leaving 5 Tryz.f5 rfl rfl rfl rfl rfl rfl rfl ⟨rfl, rfl, rfl, rfl, rfl⟩ rfl rfl rfl rfl rfl (by kernel_rfl) Tryz.func5 (by kernel_rfl)
    (of_decide_eq_true (by kernel_rfl)) (by unfold Func.isWrapper; first | (rw [if_pos (by decide +kernel)]; kernel_rfl) | (rw [if_neg (by decide +kernel)]; exact ⟨rfl, rfl⟩))
    (fun os started H enc _ => lifted os started H enc)
theorem proved : Rows.RestartsSaid :=
  over
#print axioms proved
end Go.Proofs.YtkpekiajdlolnabGreat.restarts
