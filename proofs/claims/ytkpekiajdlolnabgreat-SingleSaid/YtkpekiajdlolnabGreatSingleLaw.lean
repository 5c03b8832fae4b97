/-
  PROVED: 'rebalancekeep.Single' returns true, of whatever string. Conditions: none.
-/
import Derived.Test.YtkpekiajdlolnabGreatM04
import Derived.Test.YtkpekiajdlolnabGreatM08
set_option linter.unusedVariables false
set_option linter.unusedSimpArgs false
namespace Go.Proofs.YtkpekiajdlolnabGreat.single
open Go.ChangeShapes Go.WideShapes Go.ChangeAt Go.RowKit Go.Conc Go.ConcN Go Go.Proofs.YtkpekiajdlolnabGreat.Ph Go.Proofs.YtkpekiajdlolnabGreat.Sim

set_option maxRecDepth 100000 in
theorem lifted (os : Os) (started : os.Started) (H : Type) (enc : TypeId × Value → H) :
    ReturnsInLeavingWide {} Tryz.checked os 9 .any (Rows.singleSpec.pre6 enc Tryz.prog Tryz.f9 Rows.singleRow.domain false) (Rows.singleSpec.post enc Tryz.prog Tryz.f9 false true false false) := by
  refine returnsInLeavingWide_of_change_sized (C := Tryz.checked) q3k started Tryz.func9
    (ChangeSpec.witness6 (enc := enc) (C := Tryz.checked) false ⟨#[], #[.string ⟨#[]⟩], []⟩ 8 (by kernel_rfl) (by kernel_rfl) (by kernel_rfl) (by kernel_rfl)) ?_
  intro W base args ds gs before BM hW _ Pv _
  clear Pv
  have Ae : ∀ (j : Nat) t v, Tryz.f9.params[j]? = some t → args[j]? = some v → Value.okWide Tryz.prog W .any base t v := BM
  have E9 := hW
  obtain ⟨p, q, WV, hV, rfl, _, _⟩ := hW
  have hA : DataW.TrodAll enc Tryz.prog W 0 (fun _ => true) true Tryz.f9.params.toList args.toList ds p := WV
  rw [Tryz.params9] at hA Ae
  obtain ⟨v0, d0, rfl, rfl, h0⟩ := trodAll_one hA
  obtain ⟨rfl, rfl⟩ := trodVars_none hV
  obtain ⟨a, rfl⟩ := okWide_string Tryz.underlying9 (Ae 0 9 v0 rfl rfl)
  clear WV BM
  simp only [List.append_nil] at E9
  have dY : ∀ x ∈ p, x.block < W.heap.size := fun x hx => by simpa using E9.lt x hx
  refine Zo (f := 9) (fun _ => FSt.enter Tryz.func9 (.cons (.string _) .nil)) (by kernel_rfl) (YR (N := fun _ => False) fun _ h => h) fun w' hb => ?_
  exact ⟨_, _, _, [], p, [], E9, trodAll_cons_mk (shut_bool Tryz.underlying4 _) trodAll_mk0, trodAll_mk1 (q0q (by kernel_rfl) (of_decide_eq_true (by kernel_rfl)) h0 hb dY), rfl, Y9 hb _, fun h => by cases h⟩
theorem over : Rows.singleRow.holds Tryz.pinned (OpenSpec.ofChange Rows.singleSpec) :=
  OpenClaim.holds_of_wide_leaving 9 Tryz.f9 rfl rfl rfl rfl rfl rfl rfl ⟨rfl, rfl, rfl, rfl, rfl⟩ rfl rfl rfl rfl rfl (by kernel_rfl) Tryz.func9 (by kernel_rfl)
    (of_decide_eq_true (by kernel_rfl)) (by unfold Func.isWrapper; first | (rw [if_pos (by decide +kernel)]; kernel_rfl) | (rw [if_neg (by decide +kernel)]; exact ⟨rfl, rfl⟩))
    (fun os started H enc _ => lifted os started H enc)
theorem proved : Rows.SingleSaid :=
  over
#print axioms proved
end Go.Proofs.YtkpekiajdlolnabGreat.single
