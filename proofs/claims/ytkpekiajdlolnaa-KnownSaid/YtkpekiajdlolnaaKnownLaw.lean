/-
  PROVED: 'rebalancekeep.Known' returns true. Conditions: none.
-/
import Derived.Test.YtkpekiajdlolnaaM04
import Derived.Test.YtkpekiajdlolnaaM08
set_option linter.unusedVariables false
set_option linter.unusedSimpArgs false
namespace Go.Proofs.Ytkpekiajdlolnaa.known
open Go.ChangeShapes Go.WideShapes Go.ChangeAt Go.RowKit Go.Conc Go.ConcN Go Go.Proofs.Ytkpekiajdlolnaa.Ph Go.Proofs.Ytkpekiajdlolnaa.Sim

set_option maxRecDepth 100000 in
theorem lifted (os : Os) (started : os.Started) (H : Type) (enc : TypeId × Value → H) :
    ReturnsInLeavingWide {} Try.checked os 4 .any (Rows.knownSpec.pre6 enc Try.prog Try.f4 Rows.knownRow.domain false) (Rows.knownSpec.post enc Try.prog Try.f4 false true false false) := by
  refine returnsInLeavingWide_of_change_sized (C := Try.checked) q1h started Try.func4
    (ChangeSpec.witness6 (enc := enc) (C := Try.checked) false ⟨#[], #[], []⟩ 8 (by kernel_rfl) (by kernel_rfl) (by kernel_rfl) (by kernel_rfl)) ?_
  intro W base args ds gs before GZ hW _ N7 _
  clear N7
  have Gv := hW
  obtain ⟨p, q, UD, hV, rfl, _, _⟩ := hW
  have hA : DataW.TrodAll enc Try.prog W 0 (fun _ => true) true Try.f4.params.toList args.toList ds p := UD
  rw [Try.params4] at hA
  obtain ⟨rfl, rfl, rfl⟩ := trodAll_none hA
  obtain ⟨rfl, rfl⟩ := trodVars_none hV
  clear UD GZ
  simp only [List.append_nil] at Gv
  refine Xw (f := 4) (fun _ => FSt.enter Try.func4 .nil) (by kernel_rfl) (VI (N := fun _ => False) fun _ h => h) fun w' hb => ?_
  exact ⟨_, _, _, [], [], [], Gv, trodAll_cons_mk (shut_bool Try.underlying4 _) trodAll_mk0, trodAll_mk0, rfl, Xl hb _, fun h => by cases h⟩
theorem over : Rows.knownRow.holds Try.pinned (OpenSpec.ofChange Rows.knownSpec) :=
  OpenClaim.holds_of_wide_leaving 4 Try.f4 rfl rfl rfl rfl rfl rfl rfl ⟨rfl, rfl, rfl, rfl, rfl⟩ rfl rfl rfl rfl rfl (by kernel_rfl) Try.func4 (by kernel_rfl)
    (of_decide_eq_true (by kernel_rfl)) (by unfold Func.isWrapper; first | (rw [if_pos (by decide +kernel)]; kernel_rfl) | (rw [if_neg (by decide +kernel)]; exact ⟨rfl, rfl⟩))
    (fun os started H enc _ => lifted os started H enc)
theorem proved : Rows.KnownSaid :=
  over
#print axioms proved
end Go.Proofs.Ytkpekiajdlolnaa.known
