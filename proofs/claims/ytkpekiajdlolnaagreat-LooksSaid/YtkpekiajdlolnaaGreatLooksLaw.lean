/-
  PROVED: 'rebalancelaw.Looks' returns true: every Look of a script answers as the document's. Conditions: none.
-/
import Derived.Test.YtkpekiajdlolnaaGreatM05
import Derived.Test.YtkpekiajdlolnaaGreatM08
set_option linter.unusedVariables false
set_option linter.unusedSimpArgs false
namespace Go.Proofs.YtkpekiajdlolnaaGreat.looks
open Go.ChangeShapes Go.WideShapes Go.ChangeAt Go.RowKit Go.Conc Go.ConcN Go Go.Proofs.YtkpekiajdlolnaaGreat.Ph Go.Proofs.YtkpekiajdlolnaaGreat.Sim

theorem law_run {W : World} {sp : Option Addr} {L cp : Nat} {os : Nat → OpV} {kv : List Value} (hS : ve W.heap.size W sp L os) :
    qf (fun b => b < W.heap.size) kv [] (Frame.enter XG.P 12 #[.slice sp L cp] .normal) W [] (Ret 12 fun v w' => v = .bool true ∧ But (fun b => W.heap.size ≤ b) W w') :=
  qwi (c := 8) rfl Tryz.func12 rfl rfl rfl ⟨rfl, rfl, rfl⟩ ⟨rfl, rfl, rfl⟩ ⟨rfl, rfl, rfl⟩ ⟨rfl, rfl, rfl⟩ ⟨rfl, rfl, rfl⟩ ⟨rfl, rfl, rfl⟩ ⟨rfl, rfl, rfl⟩ ⟨rfl, rfl, rfl⟩ ⟨rfl, rfl, rfl⟩ ⟨rfl, rfl, rfl⟩ hS
    fun w1 _ hL => ⟨StA w1.heap.size w1, qqb hS.ok hL (by decide) (by decide), StA.new w1⟩
set_option maxRecDepth 100000 in
theorem lifted (os : Os) (started : os.Started) (H : Type) (enc : TypeId × Value → H) :
    ReturnsInLeavingWide {} Tryz.checked os 12 .any (Rows.looksSpec.pre6 enc Tryz.prog Tryz.f12 Rows.looksRow.domain false) (Rows.looksSpec.post enc Tryz.prog Tryz.f12 false true false false) := by
  refine returnsInLeavingWide_of_change_sized (C := Tryz.checked) qks started Tryz.func12
    (ChangeSpec.witness6 (enc := enc) (C := Tryz.checked) false ⟨#[], #[.slice none 0 0], []⟩ 8 (by kernel_rfl) (by kernel_rfl) (by kernel_rfl) (by kernel_rfl)) ?_
  intro W base args ds gs before hval0 hW _ hsz0 _
  have hsz : (DataW.weightsEach Tryz.prog (Tryz.f12.params.toList ++ Rows.looksSpec.plain.varTypes Tryz.prog) (ds ++ gs)).all (· ≤ reachBytes) = true := hsz0
  clear hsz0
  have hval : ∀ (j : Nat) t v, Tryz.f12.params[j]? = some t → args[j]? = some v → Value.okWide Tryz.prog W .any base t v := hval0
  have hW' := hW
  obtain ⟨p, q, hA0, hV, rfl, _, _⟩ := hW
  have hA : DataW.TrodAll enc Tryz.prog W 0 (fun _ => true) true Tryz.f12.params.toList args.toList ds p := hA0
  rw [Tryz.params12] at hA hval hsz
  obtain ⟨v0, d0, rfl, rfl, h0⟩ := trodAll_one hA
  obtain ⟨rfl, rfl⟩ := trodVars_none hV
  have hv0 := hval 0 45 v0 rfl rfl
  obtain ⟨a0, len, cap, rfl⟩ := okWide_slice Tryz.underlying45 hv0
  clear hA0 hval0
  simp only [List.append_nil] at hW'
  have hlt : ∀ x ∈ p, x.block < W.heap.size := fun x hx => by simpa using hW'.lt x hx
  obtain ⟨os', hS⟩ := qho h0 hv0 hsz hlt
  refine qkv (f := 12) rfl (by kernel_rfl) (law_run hS) fun w' hb => ?_
  exact ⟨_, _, _, [], p, [], hW', trodAll_cons_mk (shut_bool Tryz.underlying4 _) trodAll_mk0, trodAll_mk1 (qkq (by kernel_rfl) (of_decide_eq_true (by kernel_rfl)) h0 hb hlt), rfl, qh7 hb _, fun h => by cases h⟩
theorem over : Rows.looksRow.holds Tryz.pinned (OpenSpec.ofChange Rows.looksSpec) :=
  OpenClaim.holds_of_wide_leaving 12 Tryz.f12 rfl rfl rfl rfl rfl rfl rfl ⟨rfl, rfl, rfl, rfl, rfl⟩ rfl rfl rfl rfl rfl (by kernel_rfl) Tryz.func12 (by kernel_rfl)
    (of_decide_eq_true (by kernel_rfl)) (by unfold Func.isWrapper; first | (rw [if_pos (by decide +kernel)]; kernel_rfl) | (rw [if_neg (by decide +kernel)]; exact ⟨rfl, rfl⟩))
    (fun os started H enc _ => lifted os started H enc)
theorem proved : Rows.LooksSaid :=
  over
#print axioms proved
end Go.Proofs.YtkpekiajdlolnaaGreat.looks
