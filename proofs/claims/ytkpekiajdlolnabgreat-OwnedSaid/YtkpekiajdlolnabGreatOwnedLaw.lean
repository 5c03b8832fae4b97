/-
  PROVED: 'rebalancelaw.Owned' returns true: every Scan of a script answers as the document's, and what was handed out stays the caller's. Conditions: none.
-/
import Derived.Test.YtkpekiajdlolnabGreatM10
set_option linter.unusedVariables false
set_option linter.unusedSimpArgs false
namespace Go.Proofs.YtkpekiajdlolnabGreat.owned
open Go.ChangeShapes Go.WideShapes Go.ChangeAt Go.RowKit Go.Conc Go.ConcN Go Go.Proofs.YtkpekiajdlolnabGreat.Ph Go.Proofs.YtkpekiajdlolnabGreat.Sim

theorem law_run {W : World} {sp : Option Addr} {L cp : Nat} {os : Nat → OpV} {kv : List Value} (hS : ScriptAt W.heap.size W sp L os) :
    CGo (fun b => b < W.heap.size) kv [] (Frame.enter XG.P 7 #[.slice sp L cp] .normal) W [] (Ret 7 fun v w' => v = .bool true ∧ But (fun b => W.heap.size ≤ b) W w') :=
  law_c (c := -1) rfl Tryz.func7 rfl rfl rfl ⟨rfl, rfl, rfl⟩ ⟨rfl, rfl, rfl⟩ ⟨rfl, rfl, rfl⟩ ⟨rfl, rfl, rfl⟩ ⟨rfl, rfl, rfl⟩ ⟨rfl, rfl, rfl⟩ ⟨rfl, rfl, rfl⟩ ⟨rfl, rfl, rfl⟩ ⟨rfl, rfl, rfl⟩ ⟨rfl, rfl, rfl⟩ hS
    fun w1 _ hL => ⟨StA w1.heap.size w1, plays1 hS.ok hL (by decide) (by decide), StA.new w1⟩
set_option maxRecDepth 100000 in
theorem lifted (os : Os) (started : os.Started) (H : Type) (enc : TypeId × Value → H) :
    ReturnsInLeavingWide {} Tryz.checked os 7 .any (Rows.ownedSpec.pre6 enc Tryz.prog Tryz.f7 Rows.ownedRow.domain false) (Rows.ownedSpec.post enc Tryz.prog Tryz.f7 false true false false) := by
  refine returnsInLeavingWide_of_change_sized (C := Tryz.checked) own_knob started Tryz.func7
    (ChangeSpec.witness6 (enc := enc) (C := Tryz.checked) false ⟨#[], #[.slice none 0 0], []⟩ 8 (by kernel_rfl) (by kernel_rfl) (by kernel_rfl) (by kernel_rfl)) ?_
  intro W base args ds gs before hval0 hW _ hsz0 _
  have hsz : (DataW.weightsEach Tryz.prog (Tryz.f7.params.toList ++ Rows.ownedSpec.plain.varTypes Tryz.prog) (ds ++ gs)).all (· ≤ reachBytes) = true := hsz0
  clear hsz0
  have hval : ∀ (j : Nat) t v, Tryz.f7.params[j]? = some t → args[j]? = some v → Value.okWide Tryz.prog W .any base t v := hval0
  have hW' := hW
  obtain ⟨p, q, hA0, hV, rfl, _, _⟩ := hW
  have hA : DataW.TrodAll enc Tryz.prog W 0 (fun _ => true) true Tryz.f7.params.toList args.toList ds p := hA0
  rw [Tryz.params7] at hA hval hsz
  obtain ⟨v0, d0, rfl, rfl, h0⟩ := trodAll_one hA
  obtain ⟨rfl, rfl⟩ := trodVars_none hV
  have hv0 := hval 0 22 v0 rfl rfl
  obtain ⟨a0, len, cap, rfl⟩ := okWide_slice Tryz.underlying22 hv0
  clear hA0 hval0
  simp only [List.append_nil] at hW'
  have hlt : ∀ x ∈ p, x.block < W.heap.size := fun x hx => by simpa using hW'.lt x hx
  obtain ⟨os', hS⟩ := script_in h0 hv0 hsz hlt
  refine law_good (f := 7) rfl (by kernel_rfl) (law_run hS) fun w' hb => ?_
  exact ⟨_, _, _, [], p, [], hW', trodAll_cons_mk (shut_bool Tryz.underlying4 _) trodAll_mk0, trodAll_mk1 (but_trod (by kernel_rfl) (of_decide_eq_true (by kernel_rfl)) h0 hb hlt), rfl, but_frame hb _, fun h => by cases h⟩
theorem over : Rows.ownedRow.holds Tryz.pinned (OpenSpec.ofChange Rows.ownedSpec) :=
  OpenClaim.holds_of_wide_leaving 7 Tryz.f7 rfl rfl rfl rfl rfl rfl rfl ⟨rfl, rfl, rfl, rfl, rfl⟩ rfl rfl rfl rfl rfl (by kernel_rfl) Tryz.func7 (by kernel_rfl)
    (of_decide_eq_true (by kernel_rfl)) (by unfold Func.isWrapper; first | (rw [if_pos (by decide +kernel)]; kernel_rfl) | (rw [if_neg (by decide +kernel)]; exact ⟨rfl, rfl⟩))
    (fun os started H enc _ => lifted os started H enc)
theorem proved : Rows.OwnedSaid :=
  over
#print axioms proved
end Go.Proofs.YtkpekiajdlolnabGreat.owned
