/-
  PROVED: 'rebalancekeep.Small' returns true, of whatever two strings. Conditions: none.
-/
import Derived.Test.YtkpekiajdlolnaaGreatM04
import Derived.Test.YtkpekiajdlolnaaGreatM07
set_option linter.unusedVariables false
set_option linter.unusedSimpArgs false
namespace Go.Proofs.YtkpekiajdlolnaaGreat.small
open Go.ChangeShapes Go.WideShapes Go.ChangeAt Go.RowKit Go.Conc Go.ConcN Go Go.Proofs.YtkpekiajdlolnaaGreat.Ph Go.Proofs.YtkpekiajdlolnaaGreat.Sim

set_option maxRecDepth 100000 in
theorem lifted (os : Os) (started : os.Started) (H : Type) (enc : TypeId × Value → H) :
    ReturnsInLeavingWide {} Tryz.checked os 3 .any (Rows.smallSpec.pre6 enc Tryz.prog Tryz.f3 Rows.smallRow.domain false) (Rows.smallSpec.post enc Tryz.prog Tryz.f3 false true false false) := by
  refine returnsInLeavingWide_of_change_sized (C := Tryz.checked) q0x started Tryz.func3
    (ChangeSpec.witness6 (enc := enc) (C := Tryz.checked) false ⟨#[], #[.string ⟨#[]⟩, .string ⟨#[]⟩], []⟩ 8 (by kernel_rfl) (by kernel_rfl) (by kernel_rfl) (by kernel_rfl)) ?_
  intro W base args ds gs before zP hW _ Oc _
  clear Oc
  have uP : ∀ (j : Nat) t v, Tryz.f3.params[j]? = some t → args[j]? = some v → Value.okWide Tryz.prog W .any base t v := zP
  have Dr := hW
  obtain ⟨p, q, Vr, hV, rfl, _, _⟩ := hW
  have hA : DataW.TrodAll enc Tryz.prog W 0 (fun _ => true) true Tryz.f3.params.toList args.toList ds p := Vr
  rw [Tryz.params3] at hA uP
  obtain ⟨v0, v1, d0, d1, p0, p1, rfl, rfl, rfl, h0, h1⟩ := trodAll_two hA
  obtain ⟨rfl, rfl⟩ := trodVars_none hV
  obtain ⟨a, rfl⟩ := okWide_string Tryz.underlying9 (uP 0 9 v0 rfl rfl)
  obtain ⟨m, rfl⟩ := okWide_string Tryz.underlying9 (uP 1 9 v1 rfl rfl)
  clear Vr zP
  simp only [List.append_nil] at Dr
  have eB : ∀ x ∈ p0 ++ p1, x.block < W.heap.size := fun x hx => by simpa using Dr.lt x hx
  refine YM (f := 3) (fun _ => FSt.enter Tryz.func3 (.cons (.string _) (.cons (.string _) .nil))) (by kernel_rfl) (q1w (N := fun _ => False) fun _ h => h) fun w' hb => ?_
  exact ⟨_, _, _, [], p0 ++ p1, [], Dr, trodAll_cons_mk (shut_bool Tryz.underlying4 _) trodAll_mk0, trodAll_mk2 (Rm (by kernel_rfl) (of_decide_eq_true (by kernel_rfl)) h0 hb fun x hx => eB x (List.mem_append_left _ hx)) (Rm (by kernel_rfl) (of_decide_eq_true (by kernel_rfl)) h1 hb fun x hx => eB x (List.mem_append_right _ hx)), rfl, Yy hb _, fun h => by cases h⟩
theorem over : Rows.smallRow.holds Tryz.pinned (OpenSpec.ofChange Rows.smallSpec) :=
  OpenClaim.holds_of_wide_leaving 3 Tryz.f3 rfl rfl rfl rfl rfl rfl rfl ⟨rfl, rfl, rfl, rfl, rfl⟩ rfl rfl rfl rfl rfl (by kernel_rfl) Tryz.func3 (by kernel_rfl)
    (of_decide_eq_true (by kernel_rfl)) (by unfold Func.isWrapper; first | (rw [if_pos (by decide +kernel)]; kernel_rfl) | (rw [if_neg (by decide +kernel)]; exact ⟨rfl, rfl⟩))
    (fun os started H enc _ => lifted os started H enc)
theorem proved : Rows.SmallSaid :=
  over
#print axioms proved
end Go.Proofs.YtkpekiajdlolnaaGreat.small
