/-
  PROVED IN PARTS: text 10 of 10 of the carrying ground of the claim (see each part's own remark). Conditions: those that each theorem names.
-/
import Derived.Test.YtkpekiajdlolnabGreatM09
import Derived.Test.YtkpekiajdlolnabGreatRows
import Derived.ProofKit
import Derived.OpenShut
import Derived.Carry
import Derived.Conc.Holds
import Derived.Deep.Slices
import Derived.ChangeArms
import Derived.Test.YtkpekiajdlolnabGreatM08
import Derived.Deep.RegionHeld3
set_option linter.unusedVariables false
set_option linter.unusedSimpArgs false

/-
  BLIND FRAMES, sixth text: 'UpTo'. Its walk is printed by program (gen_upto.py).
-/
namespace Go.Proofs.YtkpekiajdlolnabGreat.Ph
open Go.Conc Go.ConcN Go.RowKit Go.Maps Go.Conc.Lib Go Go.Proofs.YtkpekiajdlolnabGreat Go.Proofs.YtkpekiajdlolnabGreat.Sim

abbrev fU : FuncId := 11
def bU : Frame := base fU
theorem bU_bl : blG bU.fn = true := rfl
theorem bU_k : bU.kind ≠ .early := by decide
noncomputable def uB : Code := (Tryz.f11.body).getD .skip
noncomputable def uL : Code := match uB with | .seq _ (.seq _ (.seq (.seq _ (.block _ (.loop c))) _)) => c | _ => .skip
noncomputable def uI : Code := match uL with | .seq _ (.seq _ (.seq (.block _ c) _)) => c | _ => .skip
noncomputable def U0 : Array Oper := match uB with | .seq a _ => rg a | _ => #[]
noncomputable def U1 : Array Oper := match uB with | .seq _ (.seq a _) => rg a | _ => #[]
noncomputable def U2 : Array Oper := match uB with | .seq _ (.seq _ (.seq (.seq a _) _)) => rg a | _ => #[]
noncomputable def U12 : Array Oper := match uB with | .seq _ (.seq _ (.seq _ (.seq a _))) => rg a | _ => #[]
noncomputable def U3 : Array Oper := match uL with | .seq a _ => rg a | _ => #[]
noncomputable def U11 : Array Oper := match uL with | .seq _ (.seq _ (.seq _ a)) => rg a | _ => #[]
noncomputable def U4 : Array Oper := match uI with | .seq a _ => rg a | _ => #[]
noncomputable def U5 : Array Oper := match uI with | .seq _ (.seq (.seq a _) _) => rg a | _ => #[]
noncomputable def U6 : Array Oper := match uI with | .seq _ (.seq _ (.seq a _)) => rg a | _ => #[]
noncomputable def U7 : Array Oper := match uI with | .seq _ (.seq _ (.seq _ (.seq (.seq a _) _))) => rg a | _ => #[]
noncomputable def U9 : Array Oper := match uI with | .seq _ (.seq _ (.seq _ (.seq _ (.seq a _)))) => rg a | _ => #[]
noncomputable def uQ7 : Code := match uI with | .seq _ (.seq _ (.seq _ (.seq (.seq _ (.cond _ c _)) _))) => c | _ => .skip
noncomputable def uQ9 : Code := match uI with | .seq _ (.seq _ (.seq _ (.seq _ (.seq _ (.cond _ c _))))) => c | _ => .skip
theorem uB_eq : uB = .seq (.region 0 U0 false) (.seq (.region 1 U1 false) (.seq (.seq (.region 2 U2 false) (.block 0 (.loop uL))) (.seq (.region 12 U12 false) .ret))) := rfl
theorem uL_eq : uL = .seq (.region 3 U3 false) (.seq (.cond (.tmp 14) .skip (.exit 0)) (.seq (.block 1 uI) (.region 11 U11 false))) := rfl
theorem uI_eq : uI = .seq (.region 4 U4 false) (.seq (.seq (.region 5 U5 false) (.cond (.tmp 27) (.exit 1) .skip)) (.seq (.region 6 U6 false) (.seq (.seq (.region 7 U7 false) (.cond (.tmp 57) uQ7 .skip)) (.seq (.region 9 U9 false) (.cond (.tmp 69) uQ9 .skip))))) := rfl
theorem res_upto : ∀ {x : Nat → Value} {v : Value}, x 4 = v → ∀ w, (results Tryz.f11 (lay 72 x)).runT XG.P w #[] = (.ok v w, #[]) := fun {x v} h w => by
  have := res_one (fn := Tryz.f11) (r := 4) rfl (lay 72 x) w
  rw [lay_getD (by decide), h] at this
  exact this
section
variable {N : Blocks} {kv : List Value} {cs cs1 : List Frame} {w : World} {Z : Frame → World → Prop} {K : List Item} {x : Nat → Value} {sp : Option Addr} {L cp i ob n0 Wb g o0 : Nat} {c : Int} {o : OpV}
theorem u0 (h0 : x 0 = .slice sp L cp) (h1 : x 1 = .int .i64 c)  (nx : ∀ (y : Nat → Value), y 0 = .slice sp L cp → y 1 = .int .i64 c → CGo N kv cs (bU.at ⟨lay 72 y, []⟩ K) w cs1 Z) : CGo N kv cs (bU.at ⟨lay 72 x, []⟩ (.code (.region 0 U0 false) :: K)) w cs1 Z := by
  refine CGo.region ?_
  change CGo N kv cs (bU.at ⟨lay 72 x, []⟩ (.inRegion U0 [0] :: K)) w cs1 Z
  refine CGo.bv bU_bl bU_k (.int .i64 0) rfl rfl (wanted_none rfl) (Pure.assign rfl rfl) ?_
  exact CGo.regionEnd (nx _ h0 h1)
theorem u1 (h0 : x 0 = .slice sp L cp) (h1 : x 1 = .int .i64 c) (nx : ∀ y : Nat → Value, y 0 = .slice sp L cp → y 1 = .int .i64 c → y 5 = .pointer (some ⟨w.heap.size, 0, none⟩) → CGo N (.pointer (some ⟨w.heap.size, 0, none⟩) :: kv) cs (bU.at ⟨lay 72 y, []⟩ K) (w.alloc (.cells #[.slice none 0 0, .slice none 0 0, .slice none 0 0, .bool false] 36)) cs1 Z) : CGo N kv cs (bU.at ⟨lay 72 x, []⟩ (.code (.region 1 U1 false) :: K)) w cs1 Z := by
  refine CGo.region ?_
  change CGo N kv cs (bU.at ⟨lay 72 x, []⟩ (.inRegion U1 [0, 1, 2] :: K)) w cs1 Z
  refine CGo.bv bU_bl bU_k (.agg #[.slice none 0 0, .slice none 0 0, .slice none 0 0, .bool false]) rfl rfl (wanted_none rfl) (Pure.build0 rfl) ?_
  refine CGo.bbox (l := [.slice none 0 0, .slice none 0 0, .slice none 0 0, .bool false]) bU_bl bU_k rfl rfl rfl (wanted_none rfl) (by decide) rfl (fun ρ => .agg (.cons (.sliceNil _ _) (.cons (.sliceNil _ _) (.cons (.sliceNil _ _) (.cons (.bool _) .nil))))) ?_
  refine CGo.bv bU_bl bU_k (.pointer (some ⟨w.heap.size, 0, none⟩)) rfl rfl (wanted_none rfl) (Pure.assign rfl (tmp (by decide) rfl)) ?_
  exact CGo.regionEnd (nx _ h0 h1 rfl)
theorem u2 (h0 : x 0 = .slice sp L cp) (h1 : x 1 = .int .i64 c) (h5 : x 5 = .pointer (some ⟨Wb, 0, none⟩))  (nx : ∀ (y : Nat → Value), y 1 = .int .i64 c → y 5 = .pointer (some ⟨Wb, 0, none⟩) → y 11 = .slice sp L cp → y 12 = .int .i64 L → y 13 = .int .i64 (0 : Nat) → CGo N kv cs (bU.at ⟨lay 72 y, []⟩ K) w cs1 Z) : CGo N kv cs (bU.at ⟨lay 72 x, []⟩ (.code (.region 2 U2 false) :: K)) w cs1 Z := by
  refine CGo.region ?_
  change CGo N kv cs (bU.at ⟨lay 72 x, []⟩ (.inRegion U2 [0, 1, 2] :: K)) w cs1 Z
  refine CGo.bv bU_bl bU_k (.slice sp L cp) rfl rfl (wanted_none rfl) (Pure.move rfl (tmp (by decide) h0)) ?_
  refine CGo.bv bU_bl bU_k (.int .i64 L) rfl rfl (wanted_none rfl) (Pure.lenL rfl (tmp (by decide) rfl)) ?_
  refine CGo.bv bU_bl bU_k (.int .i64 0) rfl rfl (wanted_none rfl) (Pure.move rfl rfl) ?_
  exact CGo.regionEnd (nx _ h1 h5 rfl rfl rfl)
theorem u3 (h1 : x 1 = .int .i64 c) (h5 : x 5 = .pointer (some ⟨Wb, 0, none⟩)) (h11 : x 11 = .slice sp L cp) (h12 : x 12 = .int .i64 L) (h13 : x 13 = .int .i64 i) {t : Bool} (ht : decide ((i : Int) < L) = t) (nx : ∀ (y : Nat → Value), y 1 = .int .i64 c → y 5 = .pointer (some ⟨Wb, 0, none⟩) → y 11 = .slice sp L cp → y 12 = .int .i64 L → y 13 = .int .i64 i → y 14 = .bool t → CGo N kv cs (bU.at ⟨lay 72 y, []⟩ K) w cs1 Z) : CGo N kv cs (bU.at ⟨lay 72 x, []⟩ (.code (.region 3 U3 false) :: K)) w cs1 Z := by
  refine CGo.region ?_
  change CGo N kv cs (bU.at ⟨lay 72 x, []⟩ (.inRegion U3 [0] :: K)) w cs1 Z
  refine CGo.bv bU_bl bU_k (.bool t) rfl rfl (wanted_none rfl) (Pure.lss rfl (tmp (by decide) h13) (tmp (by decide) h12) ht) ?_
  exact CGo.regionEnd (nx _ h1 h5 h11 h12 h13 rfl)
theorem u4 (h1 : x 1 = .int .i64 c) (h5 : x 5 = .pointer (some ⟨Wb, 0, none⟩)) (h11 : x 11 = .slice (some ⟨g, o0, none⟩) L cp) (h12 : x 12 = .int .i64 L) (h13 : x 13 = .int .i64 i) (hi : i < L) (hN : N g) (hlt : g < w.heap.size) (hc : ∀ (j : Nat) v, o.cells.toList[j]? = some v → w.cell? ⟨g, o0 + i * 10 + j, none⟩ = some v) (nx : ∀ (y : Nat → Value), y 1 = .int .i64 c → y 5 = .pointer (some ⟨Wb, 0, none⟩) → y 11 = .slice (some ⟨g, o0, none⟩) L cp → y 12 = .int .i64 L → y 13 = .int .i64 i → y 6 = .int .i64 i → y 7 = .pointer (some ⟨w.heap.size, 0, none⟩) → CGo N (.pointer (some ⟨w.heap.size, 0, none⟩) :: kv) cs (bU.at ⟨lay 72 y, []⟩ K) (w.alloc (.cells o.cells 30)) cs1 Z) : CGo N kv cs (bU.at ⟨lay 72 x, []⟩ (.code (.region 4 U4 false) :: K)) w cs1 Z := by
  refine CGo.region ?_
  change CGo N kv cs (bU.at ⟨lay 72 x, []⟩ (.inRegion U4 [0, 1, 2, 3, 4, 5] :: K)) w cs1 Z
  refine CGo.bv bU_bl bU_k (.int .i64 i) rfl rfl (wanted_none rfl) (Pure.move rfl (tmp (by decide) h13)) ?_
  refine CGo.bv bU_bl bU_k (.pointer (some ⟨g, o0 + i * 10, none⟩)) rfl rfl (wanted_none rfl) (Pure.idx rfl (tmp (by decide) h11) (tmp (by decide) h13) hi) ?_
  refine CGo.look (l := o.cells.toList) bU_bl bU_k rfl rfl (wanted_none rfl) (tmp (by decide) rfl) hN aggOp szOp hlt (fun j v hj => by rw [Addr.add_lit]; exact hc j v hj) (fun ρ => opVR o _ ρ) ?_
  change CGo N kv cs (bU.at ⟨(lay 72 _).setIfInBounds 17 _, []⟩ _) w cs1 Z
  rw [lay_set]
  refine CGo.balloc bU_bl bU_k rfl rfl rfl (wanted_none rfl) (by kernel_rfl) zeroOp ?_
  refine CGo.bv bU_bl bU_k (.int .i64 i) rfl rfl (wanted_none rfl) (Pure.assign rfl (tmp (by decide) rfl)) ?_
  refine CGo.bstore (w0 := w) (z := [.int .i64 0, .int .i64 0, .int .i64 0, .int .i64 0, .int .i64 0, .int .i64 0, .int .i64 0, .string ⟨#[]⟩, .string ⟨#[]⟩, .string ⟨#[]⟩]) (l := o.cells.toList) bU_bl bU_k rfl rfl rfl (wanted_none rfl) (by decide) rfl (by decide) rfl (.head _) (fun ρ => opVR o _ ρ) rfl sizeOp rfl rfl ?_
  exact CGo.regionEnd (nx _ h1 h5 h11 h12 h13 rfl rfl)
theorem u5n (h1 : x 1 = .int .i64 c) (h5 : x 5 = .pointer (some ⟨Wb, 0, none⟩)) (h11 : x 11 = .slice sp L cp) (h12 : x 12 = .int .i64 L) (h13 : x 13 = .int .i64 i) (h6 : x 6 = .int .i64 i) (h7 : x 7 = .pointer (some ⟨ob, 0, none⟩)) (hkv : .pointer (some ⟨ob, 0, none⟩) ∈ kv) (c0 : w.cell? ⟨ob, 0, none⟩ = some (.int .i64 o.k)) (hc : (c != 0) = true) {t : Bool} (ht : decide (stageN c < stageN o.k) = t) (nx : ∀ (y : Nat → Value) (w' : World) (_ : Same w w'), y 1 = .int .i64 c → y 5 = .pointer (some ⟨Wb, 0, none⟩) → y 11 = .slice sp L cp → y 12 = .int .i64 L → y 13 = .int .i64 i → y 6 = .int .i64 i → y 7 = .pointer (some ⟨ob, 0, none⟩) → y 27 = .bool t → CGo N kv cs (bU.at ⟨lay 72 y, []⟩ K) w' cs1 Z) : CGo N kv cs (bU.at ⟨lay 72 x, []⟩ (.code (.region 5 U5 false) :: K)) w cs1 Z := by
  refine CGo.region ?_
  change CGo N kv cs (bU.at ⟨lay 72 x, []⟩ (.inRegion U5 [0, 1, 2, 3, 4, 5, 6, 7, 8, 9] :: K)) w cs1 Z
  refine CGo.bv bU_bl bU_k (.int .i64 c) rfl rfl (wanted_none rfl) (Pure.move rfl (tmp (by decide) h1)) ?_
  refine CGo.bv bU_bl bU_k (.bool true) rfl rfl (wanted_none rfl) (Pure.neq rfl (tmp (by decide) rfl) rfl hc) ?_
  refine CGo.bv bU_bl bU_k (.bool true) rfl rfl (wanted_none rfl) (Pure.move rfl (tmp (by decide) rfl)) ?_
  refine CGo.bv bU_bl bU_k (.pointer (some ⟨ob, 0, none⟩)) rfl rfl (wanted_some rfl rfl rfl (by decide) rfl rfl) (Pure.fOp 0 (by decide) rfl (tmp (by decide) h7)) ?_
  refine CGo.bload bU_bl bU_k rfl rfl rfl (wanted_some rfl rfl rfl (by decide) rfl rfl) (by decide) rfl hkv noAggI c0 ?_
  refine CGo.callC rfl rfl (wanted_some rfl rfl rfl (by decide) rfl rfl) bU_k (ev_call (vs := #[.int .i64 o.k]) rfl rfl (congrArg (fun v => [v]) (tmp (by decide) rfl)) (stage_call _)) Tryz.func14 (fun ρ _ => .cons (.int _ _) .nil) (stage_cc o.k) ?_
  rintro _ wa ⟨rfl, swa⟩
  refine CGo.bv bU_bl bU_k (.int .i64 c) rfl rfl (wanted_some rfl rfl rfl (by decide) rfl rfl) (Pure.move rfl (tmp (by decide) h1)) ?_
  refine CGo.callC rfl rfl (wanted_some rfl rfl rfl (by decide) rfl rfl) bU_k (ev_call (vs := #[.int .i64 c]) rfl rfl (congrArg (fun v => [v]) (tmp (by decide) rfl)) (stage_call _)) Tryz.func14 (fun ρ _ => .cons (.int _ _) .nil) (stage_cc c) ?_
  rintro _ wb ⟨rfl, swb⟩
  refine CGo.bv bU_bl bU_k (.bool t) rfl rfl (wanted_some rfl rfl rfl (by decide) rfl rfl) (Pure.gtr rfl (tmp (by decide) rfl) (tmp (by decide) rfl) ht) ?_
  refine CGo.bv bU_bl bU_k (.bool t) rfl rfl (wanted_none rfl) (Pure.pickT rfl (tmp (by decide) rfl) (tmp (by decide) rfl)) ?_
  exact CGo.regionEnd (nx _ _ (swa.trans swb) h1 h5 h11 h12 h13 h6 h7 rfl)
theorem u5z (h1 : x 1 = .int .i64 c) (h5 : x 5 = .pointer (some ⟨Wb, 0, none⟩)) (h11 : x 11 = .slice sp L cp) (h12 : x 12 = .int .i64 L) (h13 : x 13 = .int .i64 i) (h6 : x 6 = .int .i64 i) (h7 : x 7 = .pointer (some ⟨ob, 0, none⟩)) (hc : (c != 0) = false) (nx : ∀ (y : Nat → Value), y 1 = .int .i64 c → y 5 = .pointer (some ⟨Wb, 0, none⟩) → y 11 = .slice sp L cp → y 12 = .int .i64 L → y 13 = .int .i64 i → y 6 = .int .i64 i → y 7 = .pointer (some ⟨ob, 0, none⟩) → y 27 = .bool false → CGo N kv cs (bU.at ⟨lay 72 y, []⟩ K) w cs1 Z) : CGo N kv cs (bU.at ⟨lay 72 x, []⟩ (.code (.region 5 U5 false) :: K)) w cs1 Z := by
  refine CGo.region ?_
  change CGo N kv cs (bU.at ⟨lay 72 x, []⟩ (.inRegion U5 [0, 1, 2, 3, 4, 5, 6, 7, 8, 9] :: K)) w cs1 Z
  refine CGo.bv bU_bl bU_k (.int .i64 c) rfl rfl (wanted_none rfl) (Pure.move rfl (tmp (by decide) h1)) ?_
  refine CGo.bv bU_bl bU_k (.bool false) rfl rfl (wanted_none rfl) (Pure.neq rfl (tmp (by decide) rfl) rfl hc) ?_
  refine CGo.bv bU_bl bU_k (.bool false) rfl rfl (wanted_none rfl) (Pure.move rfl (tmp (by decide) rfl)) ?_
  refine CGo.bu bU_bl rfl rfl (wanted_some rfl rfl rfl (by decide) rfl rfl) ?_
  refine CGo.bu bU_bl rfl rfl (wanted_some rfl rfl rfl (by decide) rfl rfl) ?_
  refine CGo.bu bU_bl rfl rfl (wanted_some rfl rfl rfl (by decide) rfl rfl) ?_
  refine CGo.bu bU_bl rfl rfl (wanted_some rfl rfl rfl (by decide) rfl rfl) ?_
  refine CGo.bu bU_bl rfl rfl (wanted_some rfl rfl rfl (by decide) rfl rfl) ?_
  refine CGo.bu bU_bl rfl rfl (wanted_some rfl rfl rfl (by decide) rfl rfl) ?_
  refine CGo.bv bU_bl bU_k (.bool false) rfl rfl (wanted_none rfl) (Pure.pickF rfl (tmp (by decide) rfl) rfl) ?_
  exact CGo.regionEnd (nx _ h1 h5 h11 h12 h13 h6 h7 rfl)
theorem u6a (h1 : x 1 = .int .i64 c) (h5 : x 5 = .pointer (some ⟨Wb, 0, none⟩)) (h11 : x 11 = .slice sp L cp) (h12 : x 12 = .int .i64 L) (h13 : x 13 = .int .i64 i) (h6 : x 6 = .int .i64 i) (h7 : x 7 = .pointer (some ⟨ob, 0, none⟩)) (hkv : .pointer (some ⟨ob, 0, none⟩) ∈ kv) (c0 : w.cell? ⟨ob, 0, none⟩ = some (.int .i64 o.k)) (hc : (c == 0) = false) (hu : (o.k == c) = true) (nx : ∀ (y : Nat → Value), y 1 = .int .i64 c → y 5 = .pointer (some ⟨Wb, 0, none⟩) → y 11 = .slice sp L cp → y 12 = .int .i64 L → y 13 = .int .i64 i → y 6 = .int .i64 i → y 7 = .pointer (some ⟨ob, 0, none⟩) → CGo N kv cs (bU.at ⟨lay 72 y, []⟩ K) w cs1 Z) : CGo N kv cs (bU.at ⟨lay 72 x, []⟩ (.code (.region 6 U6 false) :: K)) w cs1 Z := by
  refine CGo.region ?_
  change CGo N kv cs (bU.at ⟨lay 72 x, []⟩ (.inRegion U6 [0, 1, 2, 3, 4, 5, 6, 7, 8, 9, 10, 11, 12, 13, 14, 15, 16, 17] :: K)) w cs1 Z
  refine CGo.bv bU_bl bU_k (.int .i64 c) rfl rfl (wanted_none rfl) (Pure.move rfl (tmp (by decide) h1)) ?_
  refine CGo.bv bU_bl bU_k (.bool false) rfl rfl (wanted_none rfl) (Pure.eql rfl (tmp (by decide) rfl) rfl hc) ?_
  refine CGo.bv bU_bl bU_k (.bool false) rfl rfl (wanted_none rfl) (Pure.move rfl (tmp (by decide) rfl)) ?_
  refine CGo.bv bU_bl bU_k (.pointer (some ⟨ob, 0, none⟩)) rfl rfl (wanted_some rfl rfl rfl (by decide) rfl rfl) (Pure.fOp 0 (by decide) rfl (tmp (by decide) h7)) ?_
  refine CGo.bload bU_bl bU_k rfl rfl rfl (wanted_some rfl rfl rfl (by decide) rfl rfl) (by decide) rfl hkv noAggI c0 ?_
  refine CGo.bv bU_bl bU_k (.int .i64 c) rfl rfl (wanted_some rfl rfl rfl (by decide) rfl rfl) (Pure.move rfl (tmp (by decide) h1)) ?_
  refine CGo.bv bU_bl bU_k (.bool true) rfl rfl (wanted_some rfl rfl rfl (by decide) rfl rfl) (Pure.eql rfl (tmp (by decide) rfl) (tmp (by decide) rfl) hu) ?_
  refine CGo.bv bU_bl bU_k (.bool true) rfl rfl (wanted_none rfl) (Pure.pickF rfl (tmp (by decide) rfl) (tmp (by decide) rfl)) ?_
  refine CGo.bv bU_bl bU_k (.bool true) rfl rfl (wanted_none rfl) (Pure.move rfl (tmp (by decide) rfl)) ?_
  refine CGo.bu bU_bl rfl rfl (wanted_some rfl rfl rfl (by decide) rfl rfl) ?_
  refine CGo.bu bU_bl rfl rfl (wanted_some rfl rfl rfl (by decide) rfl rfl) ?_
  refine CGo.bu bU_bl rfl rfl (wanted_some rfl rfl rfl (by decide) rfl rfl) ?_
  refine CGo.bu bU_bl rfl rfl (wanted_undef rfl rfl rfl (by decide) rfl) ?_
  refine CGo.bu bU_bl rfl rfl (wanted_undef rfl rfl rfl (by decide) rfl) ?_
  refine CGo.bu bU_bl rfl rfl (wanted_undef rfl rfl rfl (by decide) rfl) ?_
  refine CGo.bu bU_bl rfl rfl (wanted_some rfl rfl rfl (by decide) rfl rfl) ?_
  refine CGo.bv bU_bl bU_k (.bool true) rfl rfl (wanted_none rfl) (Pure.pickT rfl (tmp (by decide) rfl) rfl) ?_
  refine CGo.bv bU_bl bU_k (.bool true) rfl rfl (wanted_none rfl) (Pure.assign rfl (tmp (by decide) rfl)) ?_
  exact CGo.regionEnd (nx _ h1 h5 h11 h12 h13 h6 h7)
theorem u6b (h1 : x 1 = .int .i64 c) (h5 : x 5 = .pointer (some ⟨Wb, 0, none⟩)) (h11 : x 11 = .slice sp L cp) (h12 : x 12 = .int .i64 L) (h13 : x 13 = .int .i64 i) (h6 : x 6 = .int .i64 i) (h7 : x 7 = .pointer (some ⟨ob, 0, none⟩)) (hkv : .pointer (some ⟨ob, 0, none⟩) ∈ kv) (c0 : w.cell? ⟨ob, 0, none⟩ = some (.int .i64 o.k)) (hc : (c == 0) = false) (hu : (o.k == c) = false) (hs : (c == -1) = false) (nx : ∀ (y : Nat → Value), y 1 = .int .i64 c → y 5 = .pointer (some ⟨Wb, 0, none⟩) → y 11 = .slice sp L cp → y 12 = .int .i64 L → y 13 = .int .i64 i → y 6 = .int .i64 i → y 7 = .pointer (some ⟨ob, 0, none⟩) → CGo N kv cs (bU.at ⟨lay 72 y, []⟩ K) w cs1 Z) : CGo N kv cs (bU.at ⟨lay 72 x, []⟩ (.code (.region 6 U6 false) :: K)) w cs1 Z := by
  refine CGo.region ?_
  change CGo N kv cs (bU.at ⟨lay 72 x, []⟩ (.inRegion U6 [0, 1, 2, 3, 4, 5, 6, 7, 8, 9, 10, 11, 12, 13, 14, 15, 16, 17] :: K)) w cs1 Z
  refine CGo.bv bU_bl bU_k (.int .i64 c) rfl rfl (wanted_none rfl) (Pure.move rfl (tmp (by decide) h1)) ?_
  refine CGo.bv bU_bl bU_k (.bool false) rfl rfl (wanted_none rfl) (Pure.eql rfl (tmp (by decide) rfl) rfl hc) ?_
  refine CGo.bv bU_bl bU_k (.bool false) rfl rfl (wanted_none rfl) (Pure.move rfl (tmp (by decide) rfl)) ?_
  refine CGo.bv bU_bl bU_k (.pointer (some ⟨ob, 0, none⟩)) rfl rfl (wanted_some rfl rfl rfl (by decide) rfl rfl) (Pure.fOp 0 (by decide) rfl (tmp (by decide) h7)) ?_
  refine CGo.bload bU_bl bU_k rfl rfl rfl (wanted_some rfl rfl rfl (by decide) rfl rfl) (by decide) rfl hkv noAggI c0 ?_
  refine CGo.bv bU_bl bU_k (.int .i64 c) rfl rfl (wanted_some rfl rfl rfl (by decide) rfl rfl) (Pure.move rfl (tmp (by decide) h1)) ?_
  refine CGo.bv bU_bl bU_k (.bool false) rfl rfl (wanted_some rfl rfl rfl (by decide) rfl rfl) (Pure.eql rfl (tmp (by decide) rfl) (tmp (by decide) rfl) hu) ?_
  refine CGo.bv bU_bl bU_k (.bool false) rfl rfl (wanted_none rfl) (Pure.pickF rfl (tmp (by decide) rfl) (tmp (by decide) rfl)) ?_
  refine CGo.bv bU_bl bU_k (.bool false) rfl rfl (wanted_none rfl) (Pure.move rfl (tmp (by decide) rfl)) ?_
  refine CGo.bv bU_bl bU_k (.int .i64 c) rfl rfl (wanted_some rfl rfl rfl (by decide) rfl rfl) (Pure.move rfl (tmp (by decide) h1)) ?_
  refine CGo.bv bU_bl bU_k (.bool false) rfl rfl (wanted_some rfl rfl rfl (by decide) rfl rfl) (Pure.eql rfl (tmp (by decide) rfl) rfl hs) ?_
  refine CGo.bv bU_bl bU_k (.bool false) rfl rfl (wanted_some rfl rfl rfl (by decide) rfl rfl) (Pure.move rfl (tmp (by decide) rfl)) ?_
  refine CGo.bu bU_bl rfl rfl (wanted_some rfl rfl rfl (by decide) rfl rfl) ?_
  refine CGo.bu bU_bl rfl rfl (wanted_some rfl rfl rfl (by decide) rfl rfl) ?_
  refine CGo.bu bU_bl rfl rfl (wanted_some rfl rfl rfl (by decide) rfl rfl) ?_
  refine CGo.bv bU_bl bU_k (.bool false) rfl rfl (wanted_some rfl rfl rfl (by decide) rfl rfl) (Pure.pickF rfl (tmp (by decide) rfl) rfl) ?_
  refine CGo.bv bU_bl bU_k (.bool false) rfl rfl (wanted_none rfl) (Pure.pickF rfl (tmp (by decide) rfl) (tmp (by decide) rfl)) ?_
  refine CGo.bv bU_bl bU_k (.bool false) rfl rfl (wanted_none rfl) (Pure.assign rfl (tmp (by decide) rfl)) ?_
  exact CGo.regionEnd (nx _ h1 h5 h11 h12 h13 h6 h7)
theorem u6c (h1 : x 1 = .int .i64 c) (h5 : x 5 = .pointer (some ⟨Wb, 0, none⟩)) (h11 : x 11 = .slice sp L cp) (h12 : x 12 = .int .i64 L) (h13 : x 13 = .int .i64 i) (h6 : x 6 = .int .i64 i) (h7 : x 7 = .pointer (some ⟨ob, 0, none⟩)) (hkv : .pointer (some ⟨ob, 0, none⟩) ∈ kv) (c0 : w.cell? ⟨ob, 0, none⟩ = some (.int .i64 o.k)) (hc : (c == 0) = false) (hu : (o.k == c) = false) (hs : (c == -1) = true) {r : Bool} (hr : (o.k == 5) = r) (nx : ∀ (y : Nat → Value), y 1 = .int .i64 c → y 5 = .pointer (some ⟨Wb, 0, none⟩) → y 11 = .slice sp L cp → y 12 = .int .i64 L → y 13 = .int .i64 i → y 6 = .int .i64 i → y 7 = .pointer (some ⟨ob, 0, none⟩) → CGo N kv cs (bU.at ⟨lay 72 y, []⟩ K) w cs1 Z) : CGo N kv cs (bU.at ⟨lay 72 x, []⟩ (.code (.region 6 U6 false) :: K)) w cs1 Z := by
  refine CGo.region ?_
  change CGo N kv cs (bU.at ⟨lay 72 x, []⟩ (.inRegion U6 [0, 1, 2, 3, 4, 5, 6, 7, 8, 9, 10, 11, 12, 13, 14, 15, 16, 17] :: K)) w cs1 Z
  refine CGo.bv bU_bl bU_k (.int .i64 c) rfl rfl (wanted_none rfl) (Pure.move rfl (tmp (by decide) h1)) ?_
  refine CGo.bv bU_bl bU_k (.bool false) rfl rfl (wanted_none rfl) (Pure.eql rfl (tmp (by decide) rfl) rfl hc) ?_
  refine CGo.bv bU_bl bU_k (.bool false) rfl rfl (wanted_none rfl) (Pure.move rfl (tmp (by decide) rfl)) ?_
  refine CGo.bv bU_bl bU_k (.pointer (some ⟨ob, 0, none⟩)) rfl rfl (wanted_some rfl rfl rfl (by decide) rfl rfl) (Pure.fOp 0 (by decide) rfl (tmp (by decide) h7)) ?_
  refine CGo.bload bU_bl bU_k rfl rfl rfl (wanted_some rfl rfl rfl (by decide) rfl rfl) (by decide) rfl hkv noAggI c0 ?_
  refine CGo.bv bU_bl bU_k (.int .i64 c) rfl rfl (wanted_some rfl rfl rfl (by decide) rfl rfl) (Pure.move rfl (tmp (by decide) h1)) ?_
  refine CGo.bv bU_bl bU_k (.bool false) rfl rfl (wanted_some rfl rfl rfl (by decide) rfl rfl) (Pure.eql rfl (tmp (by decide) rfl) (tmp (by decide) rfl) hu) ?_
  refine CGo.bv bU_bl bU_k (.bool false) rfl rfl (wanted_none rfl) (Pure.pickF rfl (tmp (by decide) rfl) (tmp (by decide) rfl)) ?_
  refine CGo.bv bU_bl bU_k (.bool false) rfl rfl (wanted_none rfl) (Pure.move rfl (tmp (by decide) rfl)) ?_
  refine CGo.bv bU_bl bU_k (.int .i64 c) rfl rfl (wanted_some rfl rfl rfl (by decide) rfl rfl) (Pure.move rfl (tmp (by decide) h1)) ?_
  refine CGo.bv bU_bl bU_k (.bool true) rfl rfl (wanted_some rfl rfl rfl (by decide) rfl rfl) (Pure.eql rfl (tmp (by decide) rfl) rfl hs) ?_
  refine CGo.bv bU_bl bU_k (.bool true) rfl rfl (wanted_some rfl rfl rfl (by decide) rfl rfl) (Pure.move rfl (tmp (by decide) rfl)) ?_
  refine CGo.bv bU_bl bU_k (.pointer (some ⟨ob, 0, none⟩)) rfl rfl (wanted_some rfl rfl rfl (by decide) rfl rfl) (Pure.fOp 0 (by decide) rfl (tmp (by decide) h7)) ?_
  refine CGo.bload bU_bl bU_k rfl rfl rfl (wanted_some rfl rfl rfl (by decide) rfl rfl) (by decide) rfl hkv noAggI c0 ?_
  refine CGo.bv bU_bl bU_k (.bool r) rfl rfl (wanted_some rfl rfl rfl (by decide) rfl rfl) (Pure.eql rfl (tmp (by decide) rfl) rfl hr) ?_
  refine CGo.bv bU_bl bU_k (.bool r) rfl rfl (wanted_some rfl rfl rfl (by decide) rfl rfl) (Pure.pickT rfl (tmp (by decide) rfl) (tmp (by decide) rfl)) ?_
  refine CGo.bv bU_bl bU_k (.bool r) rfl rfl (wanted_none rfl) (Pure.pickF rfl (tmp (by decide) rfl) (tmp (by decide) rfl)) ?_
  refine CGo.bv bU_bl bU_k (.bool r) rfl rfl (wanted_none rfl) (Pure.assign rfl (tmp (by decide) rfl)) ?_
  exact CGo.regionEnd (nx _ h1 h5 h11 h12 h13 h6 h7)
theorem u6d (h1 : x 1 = .int .i64 c) (h5 : x 5 = .pointer (some ⟨Wb, 0, none⟩)) (h11 : x 11 = .slice sp L cp) (h12 : x 12 = .int .i64 L) (h13 : x 13 = .int .i64 i) (h6 : x 6 = .int .i64 i) (h7 : x 7 = .pointer (some ⟨ob, 0, none⟩)) (hc : (c == 0) = true) (nx : ∀ (y : Nat → Value), y 1 = .int .i64 c → y 5 = .pointer (some ⟨Wb, 0, none⟩) → y 11 = .slice sp L cp → y 12 = .int .i64 L → y 13 = .int .i64 i → y 6 = .int .i64 i → y 7 = .pointer (some ⟨ob, 0, none⟩) → CGo N kv cs (bU.at ⟨lay 72 y, []⟩ K) w cs1 Z) : CGo N kv cs (bU.at ⟨lay 72 x, []⟩ (.code (.region 6 U6 false) :: K)) w cs1 Z := by
  refine CGo.region ?_
  change CGo N kv cs (bU.at ⟨lay 72 x, []⟩ (.inRegion U6 [0, 1, 2, 3, 4, 5, 6, 7, 8, 9, 10, 11, 12, 13, 14, 15, 16, 17] :: K)) w cs1 Z
  refine CGo.bv bU_bl bU_k (.int .i64 c) rfl rfl (wanted_none rfl) (Pure.move rfl (tmp (by decide) h1)) ?_
  refine CGo.bv bU_bl bU_k (.bool true) rfl rfl (wanted_none rfl) (Pure.eql rfl (tmp (by decide) rfl) rfl hc) ?_
  refine CGo.bv bU_bl bU_k (.bool true) rfl rfl (wanted_none rfl) (Pure.move rfl (tmp (by decide) rfl)) ?_
  refine CGo.bu bU_bl rfl rfl (wanted_some rfl rfl rfl (by decide) rfl rfl) ?_
  refine CGo.bu bU_bl rfl rfl (wanted_some rfl rfl rfl (by decide) rfl rfl) ?_
  refine CGo.bu bU_bl rfl rfl (wanted_some rfl rfl rfl (by decide) rfl rfl) ?_
  refine CGo.bu bU_bl rfl rfl (wanted_some rfl rfl rfl (by decide) rfl rfl) ?_
  refine CGo.bv bU_bl bU_k (.bool true) rfl rfl (wanted_none rfl) (Pure.pickT rfl (tmp (by decide) rfl) rfl) ?_
  refine CGo.bv bU_bl bU_k (.bool true) rfl rfl (wanted_none rfl) (Pure.move rfl (tmp (by decide) rfl)) ?_
  refine CGo.bu bU_bl rfl rfl (wanted_some rfl rfl rfl (by decide) rfl rfl) ?_
  refine CGo.bu bU_bl rfl rfl (wanted_some rfl rfl rfl (by decide) rfl rfl) ?_
  refine CGo.bu bU_bl rfl rfl (wanted_some rfl rfl rfl (by decide) rfl rfl) ?_
  refine CGo.bu bU_bl rfl rfl (wanted_undef rfl rfl rfl (by decide) rfl) ?_
  refine CGo.bu bU_bl rfl rfl (wanted_undef rfl rfl rfl (by decide) rfl) ?_
  refine CGo.bu bU_bl rfl rfl (wanted_undef rfl rfl rfl (by decide) rfl) ?_
  refine CGo.bu bU_bl rfl rfl (wanted_some rfl rfl rfl (by decide) rfl rfl) ?_
  refine CGo.bv bU_bl bU_k (.bool true) rfl rfl (wanted_none rfl) (Pure.pickT rfl (tmp (by decide) rfl) rfl) ?_
  refine CGo.bv bU_bl bU_k (.bool true) rfl rfl (wanted_none rfl) (Pure.assign rfl (tmp (by decide) rfl)) ?_
  exact CGo.regionEnd (nx _ h1 h5 h11 h12 h13 h6 h7)
theorem u7 (h1 : x 1 = .int .i64 c) (h5 : x 5 = .pointer (some ⟨Wb, 0, none⟩)) (h11 : x 11 = .slice sp L cp) (h12 : x 12 = .int .i64 L) (h13 : x 13 = .int .i64 i) (h6 : x 6 = .int .i64 i) (h7 : x 7 = .pointer (some ⟨ob, 0, none⟩)) {R : World → Prop} (hkv : .pointer (some ⟨ob, 0, none⟩) ∈ kv) (hkw : .pointer (some ⟨Wb, 0, none⟩) ∈ kv) (hc : ∀ (j : Nat) v, o.cells.toList[j]? = some v → w.cell? ⟨ob, j, none⟩ = some v) (hR : ∀ w w', Same w w' → R w → R w')
    (hstep : CRet N kv fT #[.pointer (some ⟨Wb, 0, none⟩), .agg o.cells] w fun v w' => v = .bool true ∧ R w') (nx : ∀ (y : Nat → Value) (w' : World) (_ : R w'), y 1 = .int .i64 c → y 5 = .pointer (some ⟨Wb, 0, none⟩) → y 11 = .slice sp L cp → y 12 = .int .i64 L → y 13 = .int .i64 i → y 6 = .int .i64 i → y 7 = .pointer (some ⟨ob, 0, none⟩) → y 57 = .bool false → CGo N kv cs (bU.at ⟨lay 72 y, []⟩ K) w' cs1 Z) : CGo N kv cs (bU.at ⟨lay 72 x, []⟩ (.code (.region 7 U7 false) :: K)) w cs1 Z := by
  refine CGo.region ?_
  change CGo N kv cs (bU.at ⟨lay 72 x, []⟩ (.inRegion U7 [0, 1, 2, 3, 4, 5, 6, 7, 8, 9, 10, 11, 12] :: K)) w cs1 Z
  refine CGo.bv bU_bl bU_k (.pointer (some ⟨Wb, 0, none⟩)) rfl rfl (wanted_none rfl) (Pure.move rfl (tmp (by decide) h5)) ?_
  refine CGo.bloadA (l := o.cells.toList) bU_bl bU_k rfl rfl rfl (wanted_none rfl) (by decide) h7 hkv aggOp szOp hc ?_
  refine CGo.callC rfl rfl (wanted_none rfl) bU_k (ev_call (vs := #[.pointer (some ⟨Wb, 0, none⟩), .agg o.cells]) rfl rfl (congr (congrArg (fun u v => [u, v]) (tmp (by decide) rfl)) (tmp (by decide) rfl)) (step_call _)) Tryz.func15 (fun ρ hK => .cons (hK _ hkw) (.cons (opVR o _ ρ) .nil)) (CRet.calls rfl (fun v w1 wc s h => ⟨h.1, hR _ _ s h.2⟩) hstep) ?_
  rintro _ wa ⟨rfl, hRa⟩
  refine CGo.bv bU_bl bU_k (.bool false) rfl rfl (wanted_none rfl) (Pure.not rfl (tmp (by decide) rfl) rfl) ?_
  refine CGo.bv bU_bl bU_k (.bool false) rfl rfl (wanted_none rfl) (Pure.move rfl (tmp (by decide) rfl)) ?_
  refine CGo.bu bU_bl rfl rfl (wanted_some rfl rfl rfl (by decide) rfl rfl) ?_
  refine CGo.bu bU_bl rfl rfl (wanted_some rfl rfl rfl (by decide) rfl rfl) ?_
  refine CGo.bu bU_bl rfl rfl (wanted_some rfl rfl rfl (by decide) rfl rfl) ?_
  refine CGo.bu bU_bl rfl rfl (wanted_some rfl rfl rfl (by decide) rfl rfl) ?_
  refine CGo.bu bU_bl rfl rfl (wanted_some rfl rfl rfl (by decide) rfl rfl) ?_
  refine CGo.bu bU_bl rfl rfl (wanted_undef rfl rfl rfl (by decide) rfl) ?_
  refine CGo.bu bU_bl rfl rfl (wanted_some rfl rfl rfl (by decide) rfl rfl) ?_
  refine CGo.bv bU_bl bU_k (.bool false) rfl rfl (wanted_none rfl) (Pure.pickF rfl (tmp (by decide) rfl) rfl) ?_
  exact CGo.regionEnd (nx _ _ hRa h1 h5 h11 h12 h13 h6 h7 rfl)
theorem u9a (h1 : x 1 = .int .i64 c) (h5 : x 5 = .pointer (some ⟨Wb, 0, none⟩)) (h11 : x 11 = .slice sp L cp) (h12 : x 12 = .int .i64 L) (h13 : x 13 = .int .i64 i) (h6 : x 6 = .int .i64 i) (h7 : x 7 = .pointer (some ⟨ob, 0, none⟩)) (hc : (c == 0) = false) (hs : (c == -1) = false) (nx : ∀ (y : Nat → Value), y 1 = .int .i64 c → y 5 = .pointer (some ⟨Wb, 0, none⟩) → y 11 = .slice sp L cp → y 12 = .int .i64 L → y 13 = .int .i64 i → y 69 = .bool false → CGo N kv cs (bU.at ⟨lay 72 y, []⟩ K) w cs1 Z) : CGo N kv cs (bU.at ⟨lay 72 x, []⟩ (.code (.region 9 U9 false) :: K)) w cs1 Z := by
  refine CGo.region ?_
  change CGo N kv cs (bU.at ⟨lay 72 x, []⟩ (.inRegion U9 [0, 1, 2, 3, 4, 5, 6, 7, 8, 9, 10] :: K)) w cs1 Z
  refine CGo.bv bU_bl bU_k (.int .i64 c) rfl rfl (wanted_none rfl) (Pure.move rfl (tmp (by decide) h1)) ?_
  refine CGo.bv bU_bl bU_k (.bool false) rfl rfl (wanted_none rfl) (Pure.eql rfl (tmp (by decide) rfl) rfl hc) ?_
  refine CGo.bv bU_bl bU_k (.bool false) rfl rfl (wanted_none rfl) (Pure.move rfl (tmp (by decide) rfl)) ?_
  refine CGo.bv bU_bl bU_k (.int .i64 c) rfl rfl (wanted_some rfl rfl rfl (by decide) rfl rfl) (Pure.move rfl (tmp (by decide) h1)) ?_
  refine CGo.bv bU_bl bU_k (.bool false) rfl rfl (wanted_some rfl rfl rfl (by decide) rfl rfl) (Pure.eql rfl (tmp (by decide) rfl) rfl hs) ?_
  refine CGo.bv bU_bl bU_k (.bool false) rfl rfl (wanted_none rfl) (Pure.pickF rfl (tmp (by decide) rfl) (tmp (by decide) rfl)) ?_
  refine CGo.bv bU_bl bU_k (.bool false) rfl rfl (wanted_none rfl) (Pure.move rfl (tmp (by decide) rfl)) ?_
  refine CGo.bu bU_bl rfl rfl (wanted_some rfl rfl rfl (by decide) rfl rfl) ?_
  refine CGo.bu bU_bl rfl rfl (wanted_some rfl rfl rfl (by decide) rfl rfl) ?_
  refine CGo.bu bU_bl rfl rfl (wanted_some rfl rfl rfl (by decide) rfl rfl) ?_
  refine CGo.bv bU_bl bU_k (.bool false) rfl rfl (wanted_none rfl) (Pure.pickF rfl (tmp (by decide) rfl) rfl) ?_
  exact CGo.regionEnd (nx _ h1 h5 h11 h12 h13 rfl)
theorem u9b (h1 : x 1 = .int .i64 c) (h5 : x 5 = .pointer (some ⟨Wb, 0, none⟩)) (h11 : x 11 = .slice sp L cp) (h12 : x 12 = .int .i64 L) (h13 : x 13 = .int .i64 i) (h6 : x 6 = .int .i64 i) (h7 : x 7 = .pointer (some ⟨ob, 0, none⟩)) (hc : (c == 0) = false) (hs : (c == -1) = true) {R : World → Prop} (hkw : .pointer (some ⟨Wb, 0, none⟩) ∈ kv) (hl : CCalls N kv fLk #[.pointer (some ⟨Wb, 0, none⟩)] w fun v w' => v = .bool true ∧ R w') (nx : ∀ (y : Nat → Value) (w' : World) (_ : R w'), y 1 = .int .i64 c → y 5 = .pointer (some ⟨Wb, 0, none⟩) → y 11 = .slice sp L cp → y 12 = .int .i64 L → y 13 = .int .i64 i → y 69 = .bool false → CGo N kv cs (bU.at ⟨lay 72 y, []⟩ K) w' cs1 Z) : CGo N kv cs (bU.at ⟨lay 72 x, []⟩ (.code (.region 9 U9 false) :: K)) w cs1 Z := by
  refine CGo.region ?_
  change CGo N kv cs (bU.at ⟨lay 72 x, []⟩ (.inRegion U9 [0, 1, 2, 3, 4, 5, 6, 7, 8, 9, 10] :: K)) w cs1 Z
  refine CGo.bv bU_bl bU_k (.int .i64 c) rfl rfl (wanted_none rfl) (Pure.move rfl (tmp (by decide) h1)) ?_
  refine CGo.bv bU_bl bU_k (.bool false) rfl rfl (wanted_none rfl) (Pure.eql rfl (tmp (by decide) rfl) rfl hc) ?_
  refine CGo.bv bU_bl bU_k (.bool false) rfl rfl (wanted_none rfl) (Pure.move rfl (tmp (by decide) rfl)) ?_
  refine CGo.bv bU_bl bU_k (.int .i64 c) rfl rfl (wanted_some rfl rfl rfl (by decide) rfl rfl) (Pure.move rfl (tmp (by decide) h1)) ?_
  refine CGo.bv bU_bl bU_k (.bool true) rfl rfl (wanted_some rfl rfl rfl (by decide) rfl rfl) (Pure.eql rfl (tmp (by decide) rfl) rfl hs) ?_
  refine CGo.bv bU_bl bU_k (.bool true) rfl rfl (wanted_none rfl) (Pure.pickF rfl (tmp (by decide) rfl) (tmp (by decide) rfl)) ?_
  refine CGo.bv bU_bl bU_k (.bool true) rfl rfl (wanted_none rfl) (Pure.move rfl (tmp (by decide) rfl)) ?_
  refine CGo.bv bU_bl bU_k (.pointer (some ⟨Wb, 0, none⟩)) rfl rfl (wanted_some rfl rfl rfl (by decide) rfl rfl) (Pure.move rfl (tmp (by decide) h5)) ?_
  refine CGo.callC rfl rfl (wanted_some rfl rfl rfl (by decide) rfl rfl) bU_k (ev_call (vs := #[.pointer (some ⟨Wb, 0, none⟩)]) rfl rfl (congrArg (fun v => [v]) (tmp (by decide) rfl)) (looks_call _)) Tryz.func16 (fun ρ hK => .cons (hK _ hkw) .nil) hl ?_
  rintro _ wa ⟨rfl, hRa⟩
  refine CGo.bv bU_bl bU_k (.bool false) rfl rfl (wanted_some rfl rfl rfl (by decide) rfl rfl) (Pure.not rfl (tmp (by decide) rfl) rfl) ?_
  refine CGo.bv bU_bl bU_k (.bool false) rfl rfl (wanted_none rfl) (Pure.pickT rfl (tmp (by decide) rfl) (tmp (by decide) rfl)) ?_
  exact CGo.regionEnd (nx _ _ hRa h1 h5 h11 h12 h13 rfl)
theorem u9c (h1 : x 1 = .int .i64 c) (h5 : x 5 = .pointer (some ⟨Wb, 0, none⟩)) (h11 : x 11 = .slice sp L cp) (h12 : x 12 = .int .i64 L) (h13 : x 13 = .int .i64 i) (h6 : x 6 = .int .i64 i) (h7 : x 7 = .pointer (some ⟨ob, 0, none⟩)) (hc : (c == 0) = true) {R : World → Prop} (hkw : .pointer (some ⟨Wb, 0, none⟩) ∈ kv) (hl : CCalls N kv fLk #[.pointer (some ⟨Wb, 0, none⟩)] w fun v w' => v = .bool true ∧ R w') (nx : ∀ (y : Nat → Value) (w' : World) (_ : R w'), y 1 = .int .i64 c → y 5 = .pointer (some ⟨Wb, 0, none⟩) → y 11 = .slice sp L cp → y 12 = .int .i64 L → y 13 = .int .i64 i → y 69 = .bool false → CGo N kv cs (bU.at ⟨lay 72 y, []⟩ K) w' cs1 Z) : CGo N kv cs (bU.at ⟨lay 72 x, []⟩ (.code (.region 9 U9 false) :: K)) w cs1 Z := by
  refine CGo.region ?_
  change CGo N kv cs (bU.at ⟨lay 72 x, []⟩ (.inRegion U9 [0, 1, 2, 3, 4, 5, 6, 7, 8, 9, 10] :: K)) w cs1 Z
  refine CGo.bv bU_bl bU_k (.int .i64 c) rfl rfl (wanted_none rfl) (Pure.move rfl (tmp (by decide) h1)) ?_
  refine CGo.bv bU_bl bU_k (.bool true) rfl rfl (wanted_none rfl) (Pure.eql rfl (tmp (by decide) rfl) rfl hc) ?_
  refine CGo.bv bU_bl bU_k (.bool true) rfl rfl (wanted_none rfl) (Pure.move rfl (tmp (by decide) rfl)) ?_
  refine CGo.bu bU_bl rfl rfl (wanted_some rfl rfl rfl (by decide) rfl rfl) ?_
  refine CGo.bu bU_bl rfl rfl (wanted_some rfl rfl rfl (by decide) rfl rfl) ?_
  refine CGo.bv bU_bl bU_k (.bool true) rfl rfl (wanted_none rfl) (Pure.pickT rfl (tmp (by decide) rfl) rfl) ?_
  refine CGo.bv bU_bl bU_k (.bool true) rfl rfl (wanted_none rfl) (Pure.move rfl (tmp (by decide) rfl)) ?_
  refine CGo.bv bU_bl bU_k (.pointer (some ⟨Wb, 0, none⟩)) rfl rfl (wanted_some rfl rfl rfl (by decide) rfl rfl) (Pure.move rfl (tmp (by decide) h5)) ?_
  refine CGo.callC rfl rfl (wanted_some rfl rfl rfl (by decide) rfl rfl) bU_k (ev_call (vs := #[.pointer (some ⟨Wb, 0, none⟩)]) rfl rfl (congrArg (fun v => [v]) (tmp (by decide) rfl)) (looks_call _)) Tryz.func16 (fun ρ hK => .cons (hK _ hkw) .nil) hl ?_
  rintro _ wa ⟨rfl, hRa⟩
  refine CGo.bv bU_bl bU_k (.bool false) rfl rfl (wanted_some rfl rfl rfl (by decide) rfl rfl) (Pure.not rfl (tmp (by decide) rfl) rfl) ?_
  refine CGo.bv bU_bl bU_k (.bool false) rfl rfl (wanted_none rfl) (Pure.pickT rfl (tmp (by decide) rfl) (tmp (by decide) rfl)) ?_
  exact CGo.regionEnd (nx _ _ hRa h1 h5 h11 h12 h13 rfl)
theorem u11 (h1 : x 1 = .int .i64 c) (h5 : x 5 = .pointer (some ⟨Wb, 0, none⟩)) (h11 : x 11 = .slice sp L cp) (h12 : x 12 = .int .i64 L) (h13 : x 13 = .int .i64 i) (hi : i ≤ 4611686018427387904) (nx : ∀ (y : Nat → Value), y 1 = .int .i64 c → y 5 = .pointer (some ⟨Wb, 0, none⟩) → y 11 = .slice sp L cp → y 12 = .int .i64 L → y 13 = .int .i64 (i + 1 : Int) → CGo N kv cs (bU.at ⟨lay 72 y, []⟩ K) w cs1 Z) : CGo N kv cs (bU.at ⟨lay 72 x, []⟩ (.code (.region 11 U11 false) :: K)) w cs1 Z := by
  refine CGo.region ?_
  change CGo N kv cs (bU.at ⟨lay 72 x, []⟩ (.inRegion U11 [0, 1] :: K)) w cs1 Z
  refine CGo.bv bU_bl bU_k (.int .i64 (i + 1 : Int)) rfl rfl (wanted_none rfl) (Pure.add rfl (tmp (by decide) h13) rfl (by omega) (by omega)) ?_
  refine CGo.bv bU_bl bU_k (.int .i64 (i + 1 : Int)) rfl rfl (wanted_none rfl) (Pure.move rfl (tmp (by decide) rfl)) ?_
  exact CGo.regionEnd (nx _ h1 h5 h11 h12 rfl)
theorem u12   (nx : ∀ (y : Nat → Value), y 4 = .int .i64 (-1) → CGo N kv cs (bU.at ⟨lay 72 y, []⟩ K) w cs1 Z) : CGo N kv cs (bU.at ⟨lay 72 x, []⟩ (.code (.region 12 U12 false) :: K)) w cs1 Z := by
  refine CGo.region ?_
  change CGo N kv cs (bU.at ⟨lay 72 x, []⟩ (.inRegion U12 [0] :: K)) w cs1 Z
  refine CGo.bv bU_bl bU_k (.int .i64 (-1)) rfl rfl (wanted_none rfl) (Pure.assign rfl rfl) ?_
  exact CGo.regionEnd (nx _ rfl)
end
end Go.Proofs.YtkpekiajdlolnabGreat.Ph

/-
  BLIND FRAMES, seventh text: 'UpTo' whole: whatever is held, if each step that is played answers as the document does.
-/
namespace Go.Proofs.YtkpekiajdlolnabGreat.Ph
open Go.Conc Go.ConcN Go.RowKit Go.Maps Go.Conc.Lib Go Go.Proofs.YtkpekiajdlolnabGreat Go.Proofs.YtkpekiajdlolnabGreat.Sim

/-- what is asked of the steps: I: what holds before the k-th. -/
structure Plays (n0 L : Nat) (os : Nat → OpV) (c : Int) (Wb : Nat) (w0 : World) (I : Nat → World → Prop) : Prop where
  idle : ∀ k w w', I k w → But (fun _ => False) w w' → I k w'
  keep : ∀ k w, I k w → But (fun b => n0 ≤ b) w0 w
  skip : ∀ k w, I k w → I (k + 1) w
  step : ∀ (k : Nat) (w : World) (N : Blocks) (kv : List Value), k < L → (c = 0 ∨ stageN (os k).k ≤ stageN c) → I k w → (∀ b, N b → b < n0) → CRet N kv fT #[.pointer (some ⟨Wb, 0, none⟩), .agg (os k).cells] w fun v w' => v = .bool true ∧ I (k + 1) w'
  looks : (c = 0 ∨ c = -1) → ∀ k w, I k w → Calls Tryz.prog fLk #[.pointer (some ⟨Wb, 0, none⟩)] w fun e w' => e = .returned (.bool true) ∧ But (fun _ => False) w w'
section
variable {N : Blocks} {cs : List Frame} {K : List Item} {sp : Option Addr} {L cp n0 nS Wb : Nat} {c : Int} {os : Nat → OpV} {w0 : World} {I : Nat → World → Prop}
theorem Plays.same (h : Plays n0 L os c Wb w0 I) {k : Nat} {w w' : World} (s : Same w w') (i : I k w) : I k w' := h.idle k w w' i (But.same' s)
theorem Plays.look (h : Plays n0 L os c Wb w0 I) (hc : c = 0 ∨ c = -1) {kv : List Value} {k : Nat} {w : World} (i : I k w) : CCalls N kv fLk #[.pointer (some ⟨Wb, 0, none⟩)] w fun v w' => v = .bool true ∧ I k w' :=
  CCalls.of1 (r := 2) rfl rfl Tryz.func16 rfl (fun v w1 wc s h' => ⟨h'.1, h.same s h'.2⟩) fun wc s => (h.looks hc k wc (h.same s i)).mono fun e w' ⟨h1, h2⟩ => by subst h1; exact ⟨rfl, h.idle _ _ _ (h.same s i) h2⟩
theorem u_loop (hp : Plays n0 L os c Wb w0 I) (hN1 : ∀ g, g < nS → N g) (hN2 : ∀ g, N g → g < n0) (hS : ScriptAt nS w0 sp L os) (hn : nS ≤ n0) {R : Value → World → Prop} (hR : ∀ w', I L w' → R (.int .i64 (-1)) w') :
    ∀ (d i : Nat) (x : Nat → Value) (kv : List Value) (w : World), d = L - i → i ≤ L → I i w → .pointer (some ⟨Wb, 0, none⟩) ∈ kv → x 1 = .int .i64 c → x 5 = .pointer (some ⟨Wb, 0, none⟩) → x 11 = .slice sp L cp → x 12 = .int .i64 L → x 13 = .int .i64 i →
      CGo N kv cs (bU.at ⟨lay 72 x, []⟩ (.code uL :: .inLoop uL :: .inBlock 0 :: .code (.seq (.region 12 U12 false) .ret) :: K)) w cs (Ret fU R) := by
  have hlen := hS.len
  intro d
  induction d with
  | zero =>
    intro i x kv w hd hi hI hkw h1 h5 h11 h12 h13
    obtain rfl : i = L := by omega
    rw [uL_eq]
    refine CGo.seq (u3 h1 h5 h11 h12 h13 (t := false) (decide_eq_false (by omega)) fun y y1 y5 y11 y12 y13 y14 => ?_)
    refine CGo.seq (CGo.bcond (by decide) y14 ?_)
    refine CGo.exit (k' := .code (.seq (.region 12 U12 false) .ret) :: K) rfl ?_
    refine CGo.seq (u12 fun z z4 => ?_)
    exact CGo.retv Tryz.func11 (res_upto z4) (fun ρ => .int _ _) fun wc s => hR _ (hp.same s hI)
  | succ d ih =>
    intro i x kv w hd hi hI hkw h1 h5 h11 h12 h13
    have hil : i < L := by omega
    have hkeep := hp.keep _ _ hI
    obtain ⟨g, o0, rfl, hg, hgw, hcell⟩ := hS.at' (by omega)
    have hok := hS.ok i hil
    rw [uL_eq]
    refine CGo.seq (u3 h1 h5 h11 h12 h13 (t := true) (decide_eq_true (by omega)) fun y y1 y5 y11 y12 y13 y14 => ?_)
    refine CGo.seq (CGo.bcond (by decide) y14 ?_)
    refine CGo.skip ?_
    refine CGo.seq (CGo.block ?_)
    rw [uI_eq]
    refine CGo.seq ?_
    refine u4 (o := os i) y1 y5 y11 y12 y13 hil (hN1 g hg) (Nat.lt_of_lt_of_le hgw hkeep.size) (fun j v hj => (World.cell?_of_block (hkeep.keep g hgw (by omega))).trans (hcell i hil j v hj)) fun z z1 z5 z11 z12 z13 z6 z7 => ?_
    have hI1 : I i (w.alloc (.cells (os i).cells 30)) := hp.idle _ _ _ hI (But.of_below ((Below.refl _ _).alloc (Nat.le_refl _) _))
    have hblk := heap_alloc_new w (.cells (os i).cells 30)
    generalize hob : w.heap.size = ob at *
    generalize w.alloc (.cells (os i).cells 30) = w1 at *
    have cells : ∀ w', Same w1 w' → ∀ (j : Nat) v, (os i).cells.toList[j]? = some v → w'.cell? ⟨ob, j, none⟩ = some v := fun w' s j v hj => by
      have hb : w'.heap[ob]? = some (.cells (os i).cells 30 (0, 0)) := by rw [s.heap]; exact hblk
      simp only [World.cell?, hb]
      rw [← hj, Array.getElem?_toList]
      exact if_neg (by decide)
    have c0 : ∀ w', Same w1 w' → w'.cell? ⟨ob, 0, none⟩ = some (.int .i64 (os i).k) := fun w' s => cells w' s 0 _ rfl
    -- the round's end
    have last : ∀ (a : Nat → Value) (w' : World) (kv' : List Value), I (i + 1) w' → .pointer (some ⟨Wb, 0, none⟩) ∈ kv' → a 1 = .int .i64 c → a 5 = .pointer (some ⟨Wb, 0, none⟩) → a 11 = .slice (some ⟨g, o0, none⟩) L cp → a 12 = .int .i64 L → a 13 = .int .i64 i →
        CGo N kv' cs (bU.at ⟨lay 72 a, []⟩ (.code (.region 11 U11 false) :: .inLoop uL :: .inBlock 0 :: .code (.seq (.region 12 U12 false) .ret) :: K)) w' cs (Ret fU R) := by
      intro a w' kv' hI' hkw' a1 a5 a11 a12 a13
      refine u11 a1 a5 a11 a12 a13 (by omega) fun e e1 e5 e11 e12 e13 => ?_
      refine CGo.inLoop ?_
      exact ih (i + 1) e _ w' (by omega) (by omega) hI' hkw' e1 e5 e11 e12 (by rw [e13]; rfl)
    rw [uL_eq] at last
    -- the step is played
    have play : (c = 0 ∨ stageN (os i).k ≤ stageN c) → ∀ (a : Nat → Value) (w' : World), Same w1 w' → a 1 = .int .i64 c → a 5 = .pointer (some ⟨Wb, 0, none⟩) → a 11 = .slice (some ⟨g, o0, none⟩) L cp → a 12 = .int .i64 L → a 13 = .int .i64 i → a 6 = .int .i64 i → a 7 = .pointer (some ⟨ob, 0, none⟩) →
        CGo N (.pointer (some ⟨ob, 0, none⟩) :: kv) cs (bU.at ⟨lay 72 a, []⟩ (.code (.seq (.region 6 U6 false) (.seq (.seq (.region 7 U7 false) (.cond (.tmp 57) uQ7 .skip)) (.seq (.region 9 U9 false) (.cond (.tmp 69) uQ9 .skip)))) :: .inBlock 1 :: .code (.region 11 U11 false) :: .inLoop (.seq (.region 3 U3 false) (.seq (.cond (.tmp 14) .skip (.exit 0)) (.seq (.block 1 uI) (.region 11 U11 false)))) :: .inBlock 0 :: .code (.seq (.region 12 U12 false) .ret) :: K)) w' cs (Ret fU R) := by
      intro hpl a w' s a1 a5 a11 a12 a13 a6 a7
      refine CGo.seq ?_
      have six : (∀ b : Nat → Value, b 1 = .int .i64 c → b 5 = .pointer (some ⟨Wb, 0, none⟩) → b 11 = .slice (some ⟨g, o0, none⟩) L cp → b 12 = .int .i64 L → b 13 = .int .i64 i → b 6 = .int .i64 i → b 7 = .pointer (some ⟨ob, 0, none⟩) →
          CGo N (.pointer (some ⟨ob, 0, none⟩) :: kv) cs (bU.at ⟨lay 72 b, []⟩ (.code (.seq (.seq (.region 7 U7 false) (.cond (.tmp 57) uQ7 .skip)) (.seq (.region 9 U9 false) (.cond (.tmp 69) uQ9 .skip))) :: .inBlock 1 :: .code (.region 11 U11 false) :: .inLoop (.seq (.region 3 U3 false) (.seq (.cond (.tmp 14) .skip (.exit 0)) (.seq (.block 1 uI) (.region 11 U11 false)))) :: .inBlock 0 :: .code (.seq (.region 12 U12 false) .ret) :: K)) w' cs (Ret fU R)) →
          CGo N (.pointer (some ⟨ob, 0, none⟩) :: kv) cs (bU.at ⟨lay 72 a, []⟩ (.code (.region 6 U6 false) :: .code (.seq (.seq (.region 7 U7 false) (.cond (.tmp 57) uQ7 .skip)) (.seq (.region 9 U9 false) (.cond (.tmp 69) uQ9 .skip))) :: .inBlock 1 :: .code (.region 11 U11 false) :: .inLoop (.seq (.region 3 U3 false) (.seq (.cond (.tmp 14) .skip (.exit 0)) (.seq (.block 1 uI) (.region 11 U11 false)))) :: .inBlock 0 :: .code (.seq (.region 12 U12 false) .ret) :: K)) w' cs (Ret fU R) := by
        intro nx
        by_cases hc0 : c = 0
        · exact u6d a1 a5 a11 a12 a13 a6 a7 (by simpa using hc0) nx
        have hc0' : (c == 0) = false := by simpa using hc0
        by_cases hu : (os i).k = c
        · exact u6a (o := os i) a1 a5 a11 a12 a13 a6 a7 (.head _) (c0 w' s) hc0' (by simpa using hu) nx
        have hu' : ((os i).k == c) = false := by simpa using hu
        by_cases hs1 : c = -1
        · exact u6c (o := os i) a1 a5 a11 a12 a13 a6 a7 (.head _) (c0 w' s) hc0' hu' (by simpa using hs1) rfl nx
        · exact u6b (o := os i) a1 a5 a11 a12 a13 a6 a7 (.head _) (c0 w' s) hc0' hu' (by simpa using hs1) nx
      refine six fun b b1 b5 b11 b12 b13 b6 b7 => ?_
      refine CGo.seq (CGo.seq ?_)
      have hI2 := hp.same s hI1
      refine u7 (o := os i) (R := I (i + 1)) b1 b5 b11 b12 b13 b6 b7 (.head _) (List.mem_cons_of_mem _ hkw) (cells w' s) (fun _ _ s' h' => hp.same s' h') (hp.step i w' N _ hil hpl hI2 hN2) fun d w2 hI3 d1 d5 d11 d12 d13 d6 d7 d57 => ?_
      refine CGo.bcond (by decide) d57 (CGo.skip ?_)
      refine CGo.seq ?_
      by_cases hc0 : c = 0
      · refine u9c d1 d5 d11 d12 d13 d6 d7 (by simpa using hc0) (List.mem_cons_of_mem _ hkw) (hp.look (.inl hc0) hI3) fun e w3 hI4 e1 e5 e11 e12 e13 e69 => ?_
        refine CGo.bcond (by decide) e69 (CGo.skip (CGo.inBlock ?_))
        exact last e w3 _ hI4 (List.mem_cons_of_mem _ hkw) e1 e5 e11 e12 e13
      have hc0' : (c == 0) = false := by simpa using hc0
      by_cases hs1 : c = -1
      · refine u9b d1 d5 d11 d12 d13 d6 d7 hc0' (by simpa using hs1) (List.mem_cons_of_mem _ hkw) (hp.look (.inr hs1) hI3) fun e w3 hI4 e1 e5 e11 e12 e13 e69 => ?_
        refine CGo.bcond (by decide) e69 (CGo.skip (CGo.inBlock ?_))
        exact last e w3 _ hI4 (List.mem_cons_of_mem _ hkw) e1 e5 e11 e12 e13
      · refine u9a d1 d5 d11 d12 d13 d6 d7 hc0' (by simpa using hs1) fun e e1 e5 e11 e12 e13 e69 => ?_
        refine CGo.bcond (by decide) e69 (CGo.skip (CGo.inBlock ?_))
        exact last e w2 _ hI3 (List.mem_cons_of_mem _ hkw) e1 e5 e11 e12 e13
    refine CGo.seq (CGo.seq ?_)
    by_cases hc0 : c = 0
    · refine u5z z1 z5 z11 z12 z13 z6 z7 (by simpa using hc0) fun a a1 a5 a11 a12 a13 a6 a7 a27 => ?_
      refine CGo.bcond (by decide) a27 (CGo.skip ?_)
      exact play (.inl hc0) a w1 (Same.refl _) a1 a5 a11 a12 a13 a6 a7
    have hc0' : (c != 0) = true := by simpa using hc0
    by_cases hlt : stageN c < stageN (os i).k
    · refine u5n (o := os i) z1 z5 z11 z12 z13 z6 z7 (.head _) (c0 w1 (Same.refl _)) hc0' (t := true) (decide_eq_true hlt) fun a w2 s a1 a5 a11 a12 a13 a6 a7 a27 => ?_
      refine CGo.bcond (by decide) a27 ?_
      refine CGo.exit rfl ?_
      exact last a w2 _ (hp.skip _ _ (hp.same s hI1)) (List.mem_cons_of_mem _ hkw) a1 a5 a11 a12 a13
    · refine u5n (o := os i) z1 z5 z11 z12 z13 z6 z7 (.head _) (c0 w1 (Same.refl _)) hc0' (t := false) (decide_eq_false hlt) fun a w2 s a1 a5 a11 a12 a13 a6 a7 a27 => ?_
      refine CGo.bcond (by decide) a27 (CGo.skip ?_)
      exact play (.inr (by omega)) a w2 s a1 a5 a11 a12 a13 a6 a7
end
section
variable {kv : List Value} {w : World} {sp : Option Addr} {L cp nS : Nat} {os : Nat → OpV} {N : Blocks} {c : Int} {I : Nat → World → Prop}
theorem arg0' (v u : Value) (t : Array Value) : (#[v, u] ++ t).getD 0 undef = v ∧ (#[v, u] ++ t).getD 1 undef = u := by
  constructor
  · rw [Array.getD_eq_getD_getElem?, Array.getElem?_append_left (by simp)]; rfl
  · rw [Array.getD_eq_getD_getElem?, Array.getElem?_append_left (by simp)]; rfl
theorem enter_upto {v u : Value} : Frame.enter XG.P fU #[v, u] .normal = bU.at ⟨lay 72 (fun i => (#[v, u] ++ Array.replicate 70 undef).getD i undef), []⟩ [.code uB] := by
  show Frame.enter Tryz.prog fU _ .normal = _
  rw [enter_at _ Tryz.func11 (show Tryz.f11.body = some uB from rfl)]
  have hn : Tryz.f11.ntmps = 72 := rfl
  rw [hn, lay_of (by simp)]
  rfl
/-- the law's world as it begins. -/
def newLaw (w : World) : World := w.alloc (.cells #[.slice none 0 0, .slice none 0 0, .slice none 0 0, .bool false] 36)
theorem upto_c (hp : Plays w.heap.size L os c w.heap.size w I) (h0 : I 0 (newLaw w)) (hN1 : ∀ g, g < nS → N g) (hN2 : ∀ g, N g → g < w.heap.size) (hS : ScriptAt nS w sp L os) (hn : nS ≤ w.heap.size) :
    CRet N kv fU #[.slice sp L cp, .int .i64 c] w fun v w' => v = .int .i64 (-1) ∧ But (fun b => w.heap.size ≤ b) w w' := fun ks => by
  rw [enter_upto, uB_eq]
  refine CGo.seq (u0 (sp := sp) (L := L) (cp := cp) (c := c) (arg0' _ _ _).1 (arg0' _ _ _).2 fun y y0 y1 => ?_)
  refine CGo.seq (u1 y0 y1 fun z z0 z1 z5 => ?_)
  refine CGo.seq (CGo.seq (u2 z0 z1 z5 fun a a1 a5 a11 a12 a13 => ?_))
  refine CGo.block (CGo.loop ?_)
  have hh : But (fun b => w.heap.size ≤ b) w (newLaw w) := But.of_below ((Below.refl _ _).alloc (Nat.le_refl _) _)
  exact u_loop hp hN1 hN2 hS hn (R := fun v w' => v = .int .i64 (-1) ∧ But (fun b => w.heap.size ≤ b) w w') (fun w' hI => ⟨rfl, hp.keep _ _ hI⟩) (L - 0) 0 a _ _ rfl (Nat.zero_le _) h0 (.head _) a1 a5 a11 a12 a13
end
end Go.Proofs.YtkpekiajdlolnabGreat.Ph

/-
  BLIND FRAMES, eighth text: a law's own frame: 'small', then 'UpTo'. What all laws share.
-/
namespace Go.Proofs.YtkpekiajdlolnabGreat.Ph
open Go.Conc Go.ConcN Go.RowKit Go.Maps Go.Conc.Lib Go Go.Proofs.YtkpekiajdlolnabGreat Go.Proofs.YtkpekiajdlolnabGreat.Sim

theorem small_call (vs : Array Value) (w : World) : (callFunc fM vs).run Tryz.prog w = .ok (.enter fM vs) w ∧ (callFunc fM vs).events Tryz.prog w #[] = #[] := by
  have hf := Tryz.func10
  constructor <;> simp [callFunc, go_sem, hf, Tryz.f10]
theorem upto_call (vs : Array Value) (w : World) : (callFunc fU vs).run Tryz.prog w = .ok (.enter fU vs) w ∧ (callFunc fU vs).events Tryz.prog w #[] = #[] := by
  have hf := Tryz.func11
  constructor <;> simp [callFunc, go_sem, hf, Tryz.f11]
section
variable {kv : List Value} {cs cs1 : List Frame} {w : World} {Z : Frame → World → Prop} {K : List Item} {x : Nat → Value} {sp : Option Addr} {L cp : Nat} {os : Nat → OpV} {c : Int}
/-- what is asked of a law's steps. -/
def Played (w : World) (L : Nat) (os : Nat → OpV) (c : Int) : Prop := ∀ w1, But (fun _ => False) w w1 → L ≤ 262144 → ∃ I, Plays w1.heap.size L os c w1.heap.size w1 I ∧ I 0 (newLaw w1)
theorem ScriptAt.nextW {w w1 : World} (h : ScriptAt w.heap.size w sp L os) (hb : But (fun _ => False) w w1) : ScriptAt w.heap.size w1 sp L os := h.but (hb.mono fun _ => False.elim)
/-- region 1 of a law. -/
theorem law_r1 {f : FuncId} {ops : Array Oper} {o0 o1 o2 o3 o4 o5 o6 o7 o8 : Oper} (hbl : blG (base f).fn = true) (hops : ops = #[o0, o1, o2, o3, o4, o5, o6, o7, o8])
    (d0 : o0.dst = some 3 ∧ o0.guard = none ∧ o0.op = .move (.tmp 0)) (d1 : o1.dst = some 4 ∧ o1.guard = none ∧ o1.op = .call { callee := .value (.func fM), args := #[.tmp 3], argTypes := #[22] })
    (d2 : o2.dst = some 5 ∧ o2.guard = none ∧ o2.op = .unOp .not 4 (.tmp 4)) (d3 : o3.dst = some 6 ∧ o3.guard = none ∧ o3.op = .move (.tmp 5)) (d4 : o4.dst = some 7 ∧ o4.guard = some (3, false) ∧ o4.op = .move (.tmp 0))
    (d5 : o5.dst = some 8 ∧ o5.guard = some (3, false) ∧ o5.op = .call { callee := .value (.func fU), args := #[.tmp 7, .const (.int .i64 c)], argTypes := #[22, 3] })
    (d6 : o6.dst = some 9 ∧ o6.guard = some (3, false) ∧ o6.op = .binOp .eql 3 (.tmp 8) (.const (.int .i64 (-1))) 3) (d7 : o7.dst = some 10 ∧ o7.guard = none ∧ o7.op = .pick (.tmp 6) (.const (.bool true)) (.tmp 9)) (d8 : o8.dst = some 2 ∧ o8.guard = none ∧ o8.op = .assign (.tmp 10))
    (hx : x 0 = .slice sp L cp) (hS : ScriptAt w.heap.size w sp L os) (hp : Played w L os c)
    (nx : ∀ (y : Nat → Value) w', But (fun b => w.heap.size ≤ b) w w' → y 2 = .bool true → CGo (fun b => b < w.heap.size) kv cs ((base f).at ⟨lay 11 y, []⟩ K) w' cs1 Z) :
    CGo (fun b => b < w.heap.size) kv cs ((base f).at ⟨lay 11 x, []⟩ (.inRegion ops [0, 1, 2, 3, 4, 5, 6, 7, 8] :: K)) w cs1 Z := by
  have hk : (base f).kind ≠ .early := by show CallKind.normal ≠ .early; decide
  obtain ⟨d0, g0, p0⟩ := d0
  obtain ⟨d1, g1, p1⟩ := d1
  obtain ⟨d2, g2, p2⟩ := d2
  obtain ⟨d3, g3, p3⟩ := d3
  obtain ⟨d4, g4, p4⟩ := d4
  obtain ⟨d5, g5, p5⟩ := d5
  obtain ⟨d6, g6, p6⟩ := d6
  obtain ⟨d7, g7, p7⟩ := d7
  obtain ⟨d8, g8, p8⟩ := d8
  have q0 : ops[0]? = some o0 := by subst hops; rfl
  have q1 : ops[1]? = some o1 := by subst hops; rfl
  have q2 : ops[2]? = some o2 := by subst hops; rfl
  have q3 : ops[3]? = some o3 := by subst hops; rfl
  have q4 : ops[4]? = some o4 := by subst hops; rfl
  have q5 : ops[5]? = some o5 := by subst hops; rfl
  have q6 : ops[6]? = some o6 := by subst hops; rfl
  have q7 : ops[7]? = some o7 := by subst hops; rfl
  have q8 : ops[8]? = some o8 := by subst hops; rfl
  refine CGo.bv hbl hk (.slice sp L cp) q0 d0 (wanted_none g0) (Pure.move p0 (tmp (by decide) hx)) ?_
  refine CGo.callB hbl q1 d1 (wanted_none g1) hk (ev_call (vs := #[.slice sp L cp]) p1 rfl (congrArg (fun v => [v]) (tmp (by decide) rfl)) (small_call _)) Tryz.func10 (fun ρ _ h => by cases h) (fun v w1 wc s ⟨t, h1, h2, h3⟩ => ⟨t, h1, h2, h3.trans (But.same' s)⟩) (small_c (n0 := w.heap.size) (fun g hg => hg) hS (Nat.le_refl _)) ?_
  rintro _ w1 ⟨t, rfl, ht, hb⟩
  refine CGo.bv hbl hk (.bool (!t)) q2 d2 (wanted_none g2) (Pure.not p2 (tmp (by decide) rfl) rfl) ?_
  refine CGo.bv hbl hk (.bool (!t)) q3 d3 (wanted_none g3) (Pure.move p3 (tmp (by decide) rfl)) ?_
  cases t
  · refine CGo.bu hbl q4 d4 (wanted_some g4 q3 d3 (by decide) rfl rfl) ?_
    refine CGo.bu hbl q5 d5 (wanted_some g5 q3 d3 (by decide) rfl rfl) ?_
    refine CGo.bu hbl q6 d6 (wanted_some g6 q3 d3 (by decide) rfl rfl) ?_
    refine CGo.bv hbl hk (.bool true) q7 d7 (wanted_none g7) (Pure.pickT p7 (tmp (by decide) rfl) rfl) ?_
    refine CGo.bv hbl hk (.bool true) q8 d8 (wanted_none g8) (Pure.assign p8 (tmp (by decide) rfl)) ?_
    exact CGo.regionEnd (nx _ w1 (hb.mono fun _ => False.elim) rfl)
  · have hx' := hx
    obtain ⟨I, hI1, hI2⟩ := hp w1 hb (ht rfl)
    refine CGo.bv hbl hk (.slice sp L cp) q4 d4 (wanted_some g4 q3 d3 (by decide) rfl rfl) (Pure.move p4 (tmp (by decide) hx')) ?_
    refine CGo.callB hbl q5 d5 (wanted_some g5 q3 d3 (by decide) rfl rfl) hk (ev_call (vs := #[.slice sp L cp, .int .i64 c]) p5 rfl (congrArg (fun v => [v, Value.int .i64 c]) (tmp (by decide) rfl)) (upto_call _)) Tryz.func11 (fun ρ _ h => by cases h) (fun v w2 wc s ⟨h1, h2⟩ => ⟨h1, h2.trans (But.same' s)⟩) (upto_c (nS := w.heap.size) hI1 hI2 (fun g hg => hg) (fun g hg => Nat.lt_of_lt_of_le hg hb.size) (hS.nextW hb) hb.size) ?_
    rintro _ w2 ⟨rfl, hb2⟩
    refine CGo.bv hbl hk (.bool true) q6 d6 (wanted_some g6 q3 d3 (by decide) rfl rfl) (Pure.eql p6 (tmp (by decide) rfl) rfl rfl) ?_
    refine CGo.bv hbl hk (.bool true) q7 d7 (wanted_none g7) (Pure.pickF p7 (tmp (by decide) rfl) (tmp (by decide) rfl)) ?_
    refine CGo.bv hbl hk (.bool true) q8 d8 (wanted_none g8) (Pure.assign p8 (tmp (by decide) rfl)) ?_
    refine CGo.regionEnd (nx _ w2 ((hb.mono fun _ => False.elim).trans (hb2.mono fun b h => Nat.le_trans hb.size h)) rfl)
/-- a law's frame, whole. -/
theorem law_c {f : FuncId} {fn : Func} {p0 o0 o1 o2 o3 o4 o5 o6 o7 o8 : Oper} (hbl : blG f = true) (hf : XG.P.funcs[f]? = some fn) (hr : fn.results = #[.tmp 2]) (hn : fn.ntmps = 11)
    (hbody : fn.body = some (.seq (.region 0 #[p0] false) (.seq (.region 1 #[o0, o1, o2, o3, o4, o5, o6, o7, o8] false) .ret))) (e0 : p0.dst = some 2 ∧ p0.guard = none ∧ p0.op = .assign (.const (.bool false)))
    (d0 : o0.dst = some 3 ∧ o0.guard = none ∧ o0.op = .move (.tmp 0)) (d1 : o1.dst = some 4 ∧ o1.guard = none ∧ o1.op = .call { callee := .value (.func fM), args := #[.tmp 3], argTypes := #[22] })
    (d2 : o2.dst = some 5 ∧ o2.guard = none ∧ o2.op = .unOp .not 4 (.tmp 4)) (d3 : o3.dst = some 6 ∧ o3.guard = none ∧ o3.op = .move (.tmp 5)) (d4 : o4.dst = some 7 ∧ o4.guard = some (3, false) ∧ o4.op = .move (.tmp 0))
    (d5 : o5.dst = some 8 ∧ o5.guard = some (3, false) ∧ o5.op = .call { callee := .value (.func fU), args := #[.tmp 7, .const (.int .i64 c)], argTypes := #[22, 3] })
    (d6 : o6.dst = some 9 ∧ o6.guard = some (3, false) ∧ o6.op = .binOp .eql 3 (.tmp 8) (.const (.int .i64 (-1))) 3) (d7 : o7.dst = some 10 ∧ o7.guard = none ∧ o7.op = .pick (.tmp 6) (.const (.bool true)) (.tmp 9)) (d8 : o8.dst = some 2 ∧ o8.guard = none ∧ o8.op = .assign (.tmp 10))
    (hS : ScriptAt w.heap.size w sp L os) (hp : Played w L os c) :
    CGo (fun b => b < w.heap.size) kv [] (Frame.enter XG.P f #[.slice sp L cp] .normal) w [] (Ret f fun v w' => v = .bool true ∧ But (fun b => w.heap.size ≤ b) w w') := by
  have henter : Frame.enter XG.P f #[.slice sp L cp] .normal = (base f).at ⟨lay 11 (fun i => (#[Value.slice sp L cp] ++ Array.replicate 10 undef).getD i undef), []⟩ [.code (.seq (.region 0 #[p0] false) (.seq (.region 1 #[o0, o1, o2, o3, o4, o5, o6, o7, o8] false) .ret))] := by
    rw [enter_at (P := XG.P) _ hf hbody, hn, lay_of (by simp)]
    rfl
  rw [henter]
  have hk : (base f).kind ≠ .early := by show CallKind.normal ≠ .early; decide
  have hbl' : blG (base f).fn = true := hbl
  obtain ⟨e0, eg, ep⟩ := e0
  refine CGo.seq (CGo.region ?_)
  change CGo _ kv [] ((base f).at ⟨lay 11 _, []⟩ (.inRegion #[p0] [0] :: _)) w [] _
  refine CGo.bv hbl' hk (.bool false) (o := p0) rfl e0 (wanted_none eg) (Pure.assign ep rfl) ?_
  refine CGo.regionEnd (CGo.seq (CGo.region ?_))
  change CGo _ kv [] ((base f).at ⟨lay 11 _, []⟩ (.inRegion _ [0, 1, 2, 3, 4, 5, 6, 7, 8] :: _)) w [] _
  refine law_r1 hbl' rfl d0 d1 d2 d3 d4 d5 d6 d7 d8 (sp := sp) (L := L) (cp := cp) ((if_neg (by decide)).trans (arg0 _ _)) hS hp fun y w' hb y2 => ?_
  exact CGo.retv hf (fun w => by
    have := res_one hr (lay 11 y) w
    rw [lay_getD (by decide), y2] at this
    exact this) (fun ρ => .bool _) fun wc s => ⟨rfl, hb.trans (But.same' s)⟩
end
end Go.Proofs.YtkpekiajdlolnabGreat.Ph

/-
  THE ROW, what all laws share: the script as it came in; from a law's contract to the row's run.
-/
namespace Go.Proofs.YtkpekiajdlolnabGreat.Ph
open Go.Conc Go.ConcN Go.RowKit Go.Conc.Lib Go Go.Proofs.YtkpekiajdlolnabGreat Go.Proofs.YtkpekiajdlolnabGreat.Sim
open Go.ChangeShapes Go.WideShapes Go.ChangeAt Go.Deep

theorem laid_out : laidOutB Tryz.prog = true := by kernel_rfl
theorem own_knob : ownKnob Tryz.prog.godebug = none := by kernel_rfl
section
variable {H : Type} {enc : TypeId × Value → H}
theorem weights_all {P : Program} {e : TypeId} {d : DataW H} {n : Nat} : ∀ {l : List (DataW H)}, d ∈ l → n ∈ d.weights P e → n ∈ DataW.weightsAll P e l
  | x :: l, hd, hn => by
    unfold DataW.weightsAll
    rcases List.mem_cons.1 hd with rfl | hd
    · exact List.mem_append_left _ hn
    · exact List.mem_append_right _ (weights_all hd hn)
set_option maxRecDepth 100000 in
/-- one step of the script, as it came in. -/
theorem op_in {w : World} {base : Nat} {spare : Nat → Bool} {held : Bool} {n : Nat} {a : Addr} {x : DataW H × List MemPlace} {cs : List Value} (hc : w.cells? base a 10 = some cs) (h : DataW.trod enc Tryz.prog w base spare held n 30 cs = some x)
    (hw : ∀ m ∈ x.1.weights Tryz.prog 30, m ≤ reachBytes) : ∃ o : OpV, OpV.Ok o ∧ ∀ (j : Nat) v, o.cells.toList[j]? = some v → w.cell? (a.add j) = some v := by
  obtain ⟨_, hl, hcell⟩ := World.cells?_some hc
  obtain ⟨xs, n', _, rfl, _, hxs, hf⟩ := DataW.trod_struct Tryz.underlying30 h
  match cs, hl with
  | [c0, c1, c2, c3, c4, c5, c6, c7, c8, c9], _ =>
    have ci : Tryz.prog.cellsOf 3 = 1 := by kernel_rfl
    have cstr : Tryz.prog.cellsOf 9 = 1 := by kernel_rfl
    have int1 : ∀ {c : Value} {y : DataW H × List MemPlace}, DataW.trod enc Tryz.prog w base spare held n' 3 [c] = some y → ∃ z : Int, c = .int .i64 z ∧ -9223372036854775808 ≤ z ∧ z ≤ 9223372036854775807 := fun {c y} hy => by
      obtain ⟨z, h1, _, h3⟩ := DataW.trod_int Tryz.underlying3 hy
      have h1 : c = .int .i64 z := by simpa using h1
      have h3 : (decide (IntKind.i64.min ≤ z) && decide (z ≤ IntKind.i64.max)) = true := h3
      simp only [Bool.and_eq_true, decide_eq_true_eq] at h3
      exact ⟨z, h1, by simpa [IntKind.min, IntKind.signed, IntKind.bits] using h3.1, by simpa [IntKind.max, IntKind.signed, IntKind.bits] using h3.2⟩
    have str1 : ∀ {c : Value} {y : DataW H × List MemPlace}, DataW.trod enc Tryz.prog w base spare held n' 9 [c] = some y → ∃ s : ByteArray, c = .string s ∧ y.1 = .lit (.string s.data.toList) := fun {c y} hy => by
      obtain ⟨s, h1, h2, _⟩ := DataW.trod_string Tryz.underlying9 hy
      exact ⟨s, by simpa using h1, by rw [h2]⟩
    match xs, hxs with
    | [y0, y1, y2, y3, y4, y5, y6, y7, y8, y9], _ =>
      have t0 := hf 0 _ rfl
      have t1 := hf 1 _ rfl
      have t2 := hf 2 _ rfl
      have t3 := hf 3 _ rfl
      have t4 := hf 4 _ rfl
      have t5 := hf 5 _ rfl
      have t6 := hf 6 _ rfl
      have t7 := hf 7 _ rfl
      have t8 := hf 8 _ rfl
      have t9 := hf 9 _ rfl
      simp only [ci, cstr, List.drop_succ_cons, List.drop_zero, List.take_succ_cons, List.take_zero, List.getElem?_cons_zero, List.getElem?_cons_succ] at t0 t1 t2 t3 t4 t5 t6 t7 t8 t9
      obtain ⟨k, rfl, k1⟩ := int1 t0
      obtain ⟨za, rfl, a1⟩ := int1 t1
      obtain ⟨zb, rfl, b1⟩ := int1 t2
      obtain ⟨zc, rfl, e1⟩ := int1 t3
      obtain ⟨zd, rfl, d1⟩ := int1 t4
      obtain ⟨ze, rfl, f1⟩ := int1 t5
      obtain ⟨zf, rfl, g1⟩ := int1 t6
      obtain ⟨s, rfl, s1⟩ := str1 t7
      obtain ⟨t, rfl, u1⟩ := str1 t8
      obtain ⟨u, rfl, v1⟩ := str1 t9
      have hr : ∀ m ∈ DataW.weightsEach Tryz.prog [3, 3, 3, 3, 3, 3, 3, 9, 9, 9] [y0.1, y1.1, y2.1, y3.1, y4.1, y5.1, y6.1, y7.1, y8.1, y9.1], m ≤ reachBytes := fun m hm => hw m (by
        have hu := Tryz.underlying30
        show m ∈ DataW.weights Tryz.prog 30 (.agg [y0.1, y1.1, y2.1, y3.1, y4.1, y5.1, y6.1, y7.1, y8.1, y9.1])
        unfold DataW.weights
        rw [hu]
        exact hm)
      have big : ∀ (j : Nat) (d : DataW H) (b : ByteArray), [3, 3, 3, 3, 3, 3, 3, 9, 9, 9][j]? = some 9 → [y0.1, y1.1, y2.1, y3.1, y4.1, y5.1, y6.1, y7.1, y8.1, y9.1][j]? = some d → d = .lit (.string b.data.toList) → b.size ≤ 140737488355328 := fun j d b h1 h2 h3 => by
        have := hr _ (DataW.weights_mem_each h1 h2 b.data.toList.length (by subst h3; simp [DataW.weights]))
        have e : b.data.toList.length = b.size := by simp
        unfold reachBytes at this
        omega
      refine ⟨⟨k, za, zb, zc, zd, ze, zf, s, t, u⟩, ⟨k1, a1, b1, e1, d1, f1, g1, big 7 _ s rfl rfl s1, big 8 _ t rfl rfl u1, big 9 _ u rfl rfl v1⟩, fun j v hj => ?_⟩
      have hj10 : j < 10 := (List.getElem?_eq_some_iff.1 hj).1
      rw [hcell j hj10]
      exact hj
set_option maxRecDepth 100000 in
/-- the script, as it came in. -/
theorem script_in {W : World} {sp : Option Addr} {L cp : Nat} {base : Nat} {d0 : DataW H} {p : List MemPlace} (h0 : DataW.Trod enc Tryz.prog W 0 (fun _ => true) true 22 (.slice sp L cp) d0 p)
    (hv : Value.okWide Tryz.prog W .any base 22 (.slice sp L cp)) (hsz : (DataW.weightsEach Tryz.prog [22] [d0]).all (· ≤ reachBytes) = true) (hlt : ∀ x ∈ p, x.block < W.heap.size) :
    ∃ os, ScriptAt W.heap.size W sp L os := by
  obtain ⟨fuel, hf⟩ := h0
  have hC : Tryz.prog.cellsOf 30 = 10 := by kernel_rfl
  have hu := Tryz.underlying22
  rcases open_slice hu hf with ⟨e, _⟩ | ⟨a, len, cap, m, n, D, Pl, e, _, hl, hcap, hm, hx, hel⟩
  · have e : (#[Value.slice sp L cp] : Array Value).toList = [.slice none 0 0] := e
    simp at e
    obtain ⟨rfl, rfl, rfl⟩ := e
    exact ⟨fun _ => ⟨0, 0, 0, 0, 0, 0, 0, ⟨#[]⟩, ⟨#[]⟩, ⟨#[]⟩⟩, fun h => absurd h (by omega), fun i hi => absurd hi (by omega), by omega⟩
  · have e : (#[Value.slice sp L cp] : Array Value).toList = [.slice (some a) len cap] := e
    simp at e
    obtain ⟨rfl, rfl, rfl⟩ := e
    simp only [if_true] at hm
    subst m
    rw [hC] at hx hel
    simp only [Prod.mk.injEq] at hx
    obtain ⟨rfl, rfl⟩ := hx
    have hspot : a.spot = none := by
      simp only [Value.okWide, hu, Cell.okWide, Cell.ok, World.has] at hv
      exact hv.2.2.2.1
    obtain ⟨g, o0, sp0⟩ := a
    have hspot : sp0 = none := hspot
    subst hspot
    have hall : ∀ x ∈ DataW.weightsEach Tryz.prog [22] [.slice ((List.range L).map D) ((List.range (cp - L)).map fun j => D (L + j))], x ≤ reachBytes := fun x hx => by
      have := List.all_eq_true.1 hsz x hx
      simpa using this
    have hw1 : ∀ x ∈ DataW.weights Tryz.prog 22 (.slice ((List.range L).map D) ((List.range (cp - L)).map fun j => D (L + j))), x ≤ reachBytes := fun x hx => hall x (by unfold DataW.weightsEach; exact List.mem_append_left _ hx)
    have hwu : DataW.weights Tryz.prog 22 (.slice ((List.range L).map D) ((List.range (cp - L)).map fun j => D (L + j))) = (((List.range L).map D).length + ((List.range (cp - L)).map fun j => D (L + j)).length) * Tryz.prog.bytesOf 30 :: (DataW.weightsAll Tryz.prog 30 ((List.range L).map D) ++ DataW.weightsAll Tryz.prog 30 ((List.range (cp - L)).map fun j => D (L + j))) := by
      rw [DataW.weights]
      rw [hu]
    rw [hwu] at hw1
    have hlen : L ≤ 140737488355328 := by
      have hb : Tryz.prog.bytesOf 30 = 104 := by kernel_rfl
      have := hw1 _ (.head _)
      rw [hb] at this
      simp only [List.length_map, List.length_range] at this
      unfold reachBytes at this
      omega
    have key : ∀ i, ∃ o : OpV, i < L → OpV.Ok o ∧ ∀ (j : Nat) v, o.cells.toList[j]? = some v → W.cell? ⟨g, o0 + i * 10 + j, none⟩ = some v := fun i => by
      by_cases hi : i < L
      · obtain ⟨cs', hc, ht⟩ := hel i (by omega)
        obtain ⟨o, h1, h2⟩ := op_in hc ht fun x hx => hw1 x (.tail _ (List.mem_append_left _ (weights_all (List.mem_map.2 ⟨i, List.mem_range.2 hi, rfl⟩) hx)))
        refine ⟨o, fun _ => ⟨h1, fun j v hj => ?_⟩⟩
        have := h2 j v hj
        rwa [Addr.add_lit, Addr.add_lit] at this
      · exact ⟨⟨0, 0, 0, 0, 0, 0, 0, ⟨#[]⟩, ⟨#[]⟩, ⟨#[]⟩⟩, fun h => absurd h hi⟩
    obtain ⟨os, hos⟩ := Classical.axiomOfChoice key
    refine ⟨os, fun hL => ⟨g, o0, rfl, ?_, ?_, fun i hi => (hos i hi).2⟩, fun i hi => (hos i hi).1, hlen⟩
    all_goals
      have hmem : (MemPlace.cell g o0) ∈ MemPlace.row ⟨g, o0, none⟩ (cp * 10) ++ (List.range cp).flatMap Pl := List.mem_append_left _ (MemPlace.mem_row.2 ⟨0, by omega, by simp⟩)
      exact hlt _ hmem
end
section
variable {H : Type} {enc : TypeId × Value → H}
/-- from a law's contract to a good run. -/
theorem law_good {f : FuncId} {args : Array Value} {W : World} {N : Blocks} {Post : Value → World → Prop} (hbl : blG f = true) (hi : XG.P.inits.idxOf? f = none)
    (h : CGo N [] [] (Frame.enter XG.P f args .normal) W [] (Ret f fun v w' => v = .bool true ∧ But (fun b => W.heap.size ≤ b) W w')) (hp : ∀ w', But (fun b => W.heap.size ≤ b) W w' → Post (.bool true) w') :
    ∃ M last o w' t', runNT XG.P (M + 1) (solo (G (Frame.enter XG.P f args .normal) []) W) #[] = (.ended o w', t') ∧ runN XG.P M (solo (G (Frame.enter XG.P f args .normal) []) W) = .next last ∧ step XG.P last = .ended o w' ∧ Conc.Good XG.P Post last o w' t' :=
  good_of (ρ := fun _ _ => False) h (fun hb => by rw [enter_fn, hbl] at hb; cases hb) ⟨fun h _ => h.elim, fun h _ => h.elim, fun h => h.elim, fun _ _ => rfl, fun _ h => h.elim⟩ (fun v hv => by cases hv) hi
    fun v w1 wc s ⟨h1, h2⟩ => by subst h1; exact hp wc (h2.trans (But.same' s))
theorem but_trod {t : TypeId} (hr : Tryz.prog.readableRec t = true) (hrow : t < Tryz.prog.types.size) {W W' : World} {v : Value} {d : DataW H} {ps : List MemPlace} (h : DataW.Trod enc Tryz.prog W 0 (fun _ => true) true t v d ps) (hb : But (fun b => W.heap.size ≤ b) W W') (hlt : ∀ x ∈ ps, x.block < W.heap.size) :
    DataW.Trod enc Tryz.prog W' 0 (fun b => decide (b < W.heap.size)) true t v d ps :=
  WideElems.Trod_stays laid_out hr hrow h (fun x hx => by
    have hx' := hlt x hx
    cases x with
    | cell b o => exact World.cell?_of_block (w := W) (hb.keep b hx' (Nat.not_le.2 hx'))
    | map b => exact hb.keep b hx' (Nat.not_le.2 hx')) (fun x hx => by simpa using hlt x hx)
theorem but_frame {W w' : World} (h : But (fun b => W.heap.size ≤ b) W w') (may : MemPlace → Prop) : W.keptBut w' may := by
  refine ⟨h.os, h.output, fun i hi => ?_⟩
  rw [h.keep i hi (Nat.not_le.2 hi)]
  split <;> simp_all
end
end Go.Proofs.YtkpekiajdlolnabGreat.Ph

/-
  A STEP IN COMPANY, third text: the walk.
-/
namespace Go.Proofs.YtkpekiajdlolnabGreat.Ph
open Go.Conc Go.ConcN Go.RowKit Go.Maps Go.Conc.Lib Go Go.Proofs.YtkpekiajdlolnabGreat Go.Proofs.YtkpekiajdlolnabGreat.Sim

section ok
set_option maxRecDepth 100000
theorem ok_tO : codeOk XG.P XG.P fb true tO = true := by kernel_rfl
theorem ok_tN : codeOk XG.P XG.P fb true tN = true := by kernel_rfl
theorem ok_tE : codeOk XG.P XG.P fb true tEm = true := by kernel_rfl
theorem ok_tP : codeOk XG.P XG.P fb true tP = true := by kernel_rfl
theorem ok_14 : codeOk XG.P XG.P fb true tR14 = true := by kernel_rfl
theorem ok_2 : codeOk XG.P XG.P fb true (hd1 tK2) = true := by kernel_rfl
theorem ok_3 : codeOk XG.P XG.P fb true (hd1 tK3) = true := by kernel_rfl
theorem ok_4 : codeOk XG.P XG.P fb true (hd1 tK4) = true := by kernel_rfl
theorem ok_5 : codeOk XG.P XG.P fb true (hd1 tK5) = true := by kernel_rfl
theorem ok_6 : codeOk XG.P XG.P fb true tK6 = true := by kernel_rfl
theorem ok_put : codeOk XG.P XG.P fb true tPut = true := by kernel_rfl
theorem ok_del : codeOk XG.P XG.P fb true tDel = true := by kernel_rfl
theorem ok_get : codeOk XG.P XG.P fb true tGet = true := by kernel_rfl
theorem ok_scan : codeOk XG.P XG.P fb true (tl1 tScan) = true := by kernel_rfl
theorem ok_end : codeOk XG.P XG.P fb true (tl1 tM) = true := by kernel_rfl
end ok
section
variable {N : Blocks} {kv : List Value} {ks cs1 : List Frame} {Z : Frame → World → Prop} {K : List Item} {x : Nat → Value} {w0 w w1 w2 : World} {n0 W n ob pb k : Nat} {cs : List Cst} {c : Cst} {o : OpV}
theorem swSame (h : SwW n0 w W n cs ob pb k o c) (s : Same w w1) : SwW n0 w1 W n cs ob pb k o c := h.idle (But.same' s)
theorem stSame (h : StepW n0 w W n cs ob o) (s : Same w w1) : StepW n0 w1 W n cs ob o := h.idle (But.same' s)
theorem agetT {F : FuncId → Prop} {ρ : Rel} (h : VsR F ρ (SS x).toList (SS x).toList) {j : Nat} (hj : j < 224) {v : Value} (e : x j = v) : VR F ρ v v := by
  have := VsR.agetD h j
  rwa [show (SS x).getD j undef = v from (SS_getD x hj).trans e] at this
set_option maxRecDepth 100000 in
/-- the program's Scan, and what follows. -/
theorem scan_go (hx : FrX W ob pb o.k x) (h : SwW n0 w W n cs ob pb k o c) (hb : -9223372036854775808 ≤ o.b ∧ o.b ≤ 9223372036854775807) (hn : n ≤ 4398046511103) (hN : ∀ b, N b → b < w.heap.size) (hpre : But (fun b => n0 ≤ b) w0 w) :
    CGo N kv ks (bT.at ⟨SS x, []⟩ (.code tScan :: K)) w ks (Ret fT fun v w' => v = .bool true ∧ StepPost n0 w0 W n cs w') := by
  rw [tScan_eq]
  refine CGo.seq (CGo.region ?_)
  change CGo N kv ks (bT.at ⟨SS x, []⟩ (.inRegion R24 [0, 1, 2, 3, 4, 5, 6, 7, 8, 9, 10, 11, 12, 13] :: _)) w ks _
  refine CGo.opj (o := o24_0) rfl rfl (by kernel_rfl) (fun wc s => w24_0 hx.p) fun wa sa => ?_
  refine CGo.opj (o := o24_1) rfl rfl (by kernel_rfl) (fun wc s => w24_1 rfl ((swSame h (sa.trans s)).cells.1)) fun wb sb => ?_
  refine CGo.opj (o := o24_2) rfl rfl (by kernel_rfl) (fun wc s => w24_2 hx.o) fun wd sd => ?_
  refine CGo.opj (o := o24_3) rfl rfl (by kernel_rfl) (fun wc s => w24_3 rfl ((swSame h (((sa.trans sb).trans sd).trans s)).cells.2.2.2.1)) fun we se => ?_
  refine CGo.opj (o := o24_4) rfl rfl (by kernel_rfl) (fun wc s => w24_4 hx.o) fun wf sf => ?_
  refine CGo.opj (o := o24_5) rfl rfl (by kernel_rfl) (fun wc s => w24_5 rfl ((swSame h (((((sa.trans sb).trans sd).trans se).trans sf).trans s)).cells.2.2.2.2)) fun wg sg => ?_
  refine CGo.opj (o := o24_6) rfl rfl (by kernel_rfl) (fun wc s => w24_6 hx.o) fun wh sh => ?_
  refine CGo.opj (o := o24_7) rfl rfl (by kernel_rfl) (fun wc s => w24_7 rfl ((swSame h (((((((sa.trans sb).trans sd).trans se).trans sf).trans sg).trans sh).trans s)).cells.2.2.1)) fun wi si => ?_
  have s : Same w wi := ((((((sa.trans sb).trans sd).trans se).trans sf).trans sg).trans sh).trans si
  have h1 := swSame h s
  have hN1 : ∀ b, N b → b < wi.heap.size := fun b hb => by rw [s.heap]; exact hN b hb
  clear sa sb sd se sf sg sh si
  generalize hy : upd (upd (upd (upd (upd (upd (upd (upd x 146 _) 147 _) 148 _) 149 _) 150 _) 151 _) 152 _) 153 _ = y
  have y0 : FrX W ob pb o.k y := by subst hy; exact ⟨hx.w, hx.o, hx.p, hx.k⟩
  have y1 : y 147 = .pointer (some ⟨c.cl, 0, none⟩) := by subst hy; rfl
  have y2 : y 149 = .string o.s := by subst hy; rfl
  have y3 : y 151 = .string o.t := by subst hy; rfl
  have y4 : y 153 = .int .i64 o.b := by subst hy; rfl
  clear hy
  refine CGo.call (o := R24.getD 8 ⟨none, .alloc 0, 0, "", #[], none⟩) rfl rfl (by decide) (evCall y1 y2 y3 y4) Tryz.func27 (fun ρ hf _ _ => ?_) (scan_any h1 hb hN1) ?_
  · have ht := (hf rfl).tmps
    exact .cons (agetT ht (by decide) y1) (.cons (agetT ht (by decide) y2) (.cons (agetT ht (by decide) y3) (.cons (agetT ht (by decide) y4) .nil)))
  rintro _ wj ⟨ov, er, l, rfl, hr, hl, hbut, hdoc⟩
  have h2 : SwW n0 wj W n cs ob pb k o c := h1.idle hbut
  have hlow : Low wj W cs wi.heap.size := h1.st.law.low.idle h1.st.law hbut
  have hlo := h1.st.law.n0_le
  have hpre2 : But (fun b => n0 ≤ b) w0 wj := (hpre.trans (But.same' s)).trans (hbut.mono fun _ => False.elim)
  change CGo N kv ks (bT.at ⟨(SS y).setIfInBounds 154 (.tuple #[ov, .int .i64 er]), []⟩ (.inRegion R24 [9, 10, 11, 12, 13] :: _)) wj ks _
  rw [SS_set]
  refine CGo.opj (o := o24_9) rfl rfl (by kernel_rfl) (fun wc s => w24_9 rfl) fun wa sa => ?_
  refine CGo.opj (o := o24_10) rfl rfl (by kernel_rfl) (fun wc s => w24_10 rfl) fun wb sb => ?_
  refine CGo.opj (o := o24_11) rfl rfl (by kernel_rfl) (fun wc s => w24_11 rfl) fun wd sd => ?_
  refine CGo.opj (o := o24_12) rfl rfl (by kernel_rfl) (fun wc s => w24_12 rfl) fun we se => ?_
  refine CGo.opj (o := o24_13) rfl rfl (by kernel_rfl) (fun wc s => w24_13 rfl) fun wf sf => ?_
  have s2 : Same wj wf := (((sa.trans sb).trans sd).trans se).trans sf
  clear sa sb sd se sf
  generalize hz : upd (upd (upd (upd (upd (upd y 154 _) 145 _) 155 _) 156 _) 14 _) 15 _ = z
  have z0 : FrX W ob pb o.k z := by subst hz; exact ⟨y0.w, y0.o, y0.p, y0.k⟩
  have z1 : z 14 = ov := by subst hz; rfl
  have z2 : z 15 = .int .i64 er := by subst hz; rfl
  clear hz
  refine CGo.regionEnd ?_
  refine CGo.retp (n0 := n0) (w0 := w0) (W := W) (n := n) (cs := cs) ok_scan (hpre2.trans (But.same' s2)) fun wc s3 => ?_
  have h3 := swSame h2 (s2.trans s3)
  have hbt : But (fun _ => False) wj wc := But.same' (s2.trans s3)
  exact tScan_wp z0.w z0.o z0.p z1 z2 h3 hn (ownsRow_block hr fun g hg => hbt.keep g (hr.lt g hg).2 id) (by omega) hlo (hlow.idle h2.st.law hbt) (hdoc wc h3)
/-- the switch. -/
theorem switch_go (hx : FrX W ob pb o.k x) (h : SwW n0 w W n cs ob pb k o c) (ho : OpV.Ok o) (hk : o.k ≤ 5) (hn : n ≤ 4398046511103) (hN : ∀ b, N b → b < w.heap.size) (hpre : But (fun b => n0 ≤ b) w0 w) :
    CGo N kv ks (bT.at ⟨SS x, []⟩ (.code tK2 :: .inBlock 0 :: .code (tl1 tM) :: K)) w ks (Ret fT fun v w' => v = .bool true ∧ StepPost n0 w0 W n cs w') := by
  have nx : ∀ {j : Nat} {x : Nat → Value} {K : List Item} {a b : Code} {w1 : World} {v : Bool}, j < 224 → x j = .bool v → CGo N kv ks (bT.at ⟨SS x, []⟩ (.code (if v then a else b) :: K)) w1 ks (Ret fT fun v w' => v = .bool true ∧ StepPost n0 w0 W n cs w') → CGo N kv ks (bT.at ⟨SS x, []⟩ (.code (.cond (.tmp j) a b) :: K)) w1 ks (Ret fT fun v w' => v = .bool true ∧ StepPost n0 w0 W n cs w') := fun {j x K a b w1 v} hj e g => CGo.cond (t := v) ((SS_getD x hj).trans e) g
  rw [tK2_eq]
  refine CGo.seq ?_
  refine CGo.jn (R := fun x w' => FrX W ob pb o.k x ∧ x 85 = .bool (o.k == 2) ∧ Same w w') ok_2 (fun _ _ _ s h => ⟨h.1, h.2.1, h.2.2.trans s⟩) (fun wc s => Code.wp_mono (fun e a w1 q => Jn.mono (fun x w2 ⟨q1, q2, q3⟩ => ⟨q1, q2, q3 ▸ s⟩) q) (sw2 hx)) ?_
  rintro x2 w2 ⟨hx2, e2, s2⟩
  have h2 := swSame h s2
  have p2 : But (fun b => n0 ≤ b) w0 w2 := hpre.trans (But.same' s2)
  refine nx (by decide) e2 ?_
  by_cases k2 : o.k = 2
  · rw [show (o.k == 2) = true by simpa using k2]
    exact CGo.retp ok_put p2 fun wc s => tPut_wp hx2.o hx2.p (swSame h2 s) ho.s'
  rw [show (o.k == 2) = false by simpa using k2]
  change CGo N kv ks (bT.at ⟨SS x2, []⟩ (.code tK3 :: _)) w2 ks _
  rw [tK3_eq]
  refine CGo.seq ?_
  refine CGo.jn (R := fun x w' => FrX W ob pb o.k x ∧ x 103 = .bool (o.k == 3) ∧ Same w2 w') ok_3 (fun _ _ _ s h => ⟨h.1, h.2.1, h.2.2.trans s⟩) (fun wc s => Code.wp_mono (fun e a w1 q => Jn.mono (fun x w2 ⟨q1, q2, q3⟩ => ⟨q1, q2, q3 ▸ s⟩) q) (sw3 hx2)) ?_
  rintro x3 w3 ⟨hx3, e3, s3⟩
  have h3 := swSame h2 s3
  have p3 : But (fun b => n0 ≤ b) w0 w3 := p2.trans (But.same' s3)
  refine nx (by decide) e3 ?_
  by_cases k3 : o.k = 3
  · rw [show (o.k == 3) = true by simpa using k3]
    exact CGo.retp ok_del p3 fun wc s => tDel_wp hx3.o hx3.p (swSame h3 s) ho.s'
  rw [show (o.k == 3) = false by simpa using k3]
  change CGo N kv ks (bT.at ⟨SS x3, []⟩ (.code tK4 :: _)) w3 ks _
  rw [tK4_eq]
  refine CGo.seq ?_
  refine CGo.jn (R := fun x w' => FrX W ob pb o.k x ∧ x 117 = .bool (o.k == 4) ∧ Same w3 w') ok_4 (fun _ _ _ s h => ⟨h.1, h.2.1, h.2.2.trans s⟩) (fun wc s => Code.wp_mono (fun e a w1 q => Jn.mono (fun x w2 ⟨q1, q2, q3⟩ => ⟨q1, q2, q3 ▸ s⟩) q) (sw4 hx3)) ?_
  rintro x4 w4 ⟨hx4, e4, s4⟩
  have h4 := swSame h3 s4
  have p4 : But (fun b => n0 ≤ b) w0 w4 := p3.trans (But.same' s4)
  refine nx (by decide) e4 ?_
  by_cases k4 : o.k = 4
  · rw [show (o.k == 4) = true by simpa using k4]
    exact CGo.retp ok_get p4 fun wc s => tGet_wp hx4.o hx4.p (swSame h4 s) ho.s'
  rw [show (o.k == 4) = false by simpa using k4]
  change CGo N kv ks (bT.at ⟨SS x4, []⟩ (.code tK5 :: _)) w4 ks _
  rw [tK5_eq]
  refine CGo.seq ?_
  refine CGo.jn (R := fun x w' => FrX W ob pb o.k x ∧ x 143 = .bool (o.k == 5) ∧ Same w4 w') ok_5 (fun _ _ _ s h => ⟨h.1, h.2.1, h.2.2.trans s⟩) (fun wc s => Code.wp_mono (fun e a w1 q => Jn.mono (fun x w2 ⟨q1, q2, q3⟩ => ⟨q1, q2, q3 ▸ s⟩) q) (sw5 hx4)) ?_
  rintro x5 w5 ⟨hx5, e5, s5⟩
  have h5 := swSame h4 s5
  have p5 : But (fun b => n0 ≤ b) w0 w5 := p4.trans (But.same' s5)
  refine nx (by decide) e5 ?_
  by_cases k5 : o.k = 5
  · rw [show (o.k == 5) = true by simpa using k5]
    have z5 : w5.heap.size = w.heap.size := by rw [s5.heap, s4.heap, s3.heap, s2.heap]
    exact scan_go hx5 h5 ho.b hn (fun b hb => by rw [z5]; exact hN b hb) p5
  rw [show (o.k == 5) = false by simpa using k5]
  change CGo N kv ks (bT.at ⟨SS x5, []⟩ (.code tK6 :: _)) w5 ks _
  refine CGo.jn (R := fun x w' => FrX W ob pb o.k x ∧ Same w5 w') ok_6 (fun _ _ _ s h => ⟨h.1, h.2.trans s⟩) (fun wc s => Code.wp_mono (fun e a w1 q => Jn.mono (fun x w2 ⟨q1, q3⟩ => ⟨q1, q3 ▸ s⟩) q) (sw6 hx5 (by omega) (by omega) (by omega))) ?_
  rintro x6 w6 ⟨hx6, s6⟩
  refine CGo.inBlock ?_
  exact CGo.retp ok_end (p5.trans (But.same' s6)) fun wc s => tEnd_wp hx6 (swSame (swSame h5 s6) s) (by omega) (by omega) (by omega) (by omega)
theorem lay_SS {p q : Value} : #[p, q] ++ Array.replicate 222 undef = SS (fun i => if i = 0 then p else if i = 1 then q else undef) := by
  rw [← SS_list (t := #[p, q] ++ Array.replicate 222 undef) (by simp)]
  refine congrArg SS (funext fun i => ?_)
  rw [Array.getD_eq_getD_getElem?, Array.getElem?_append]
  by_cases h0 : i = 0
  · subst h0; simp
  · by_cases h1 : i = 1
    · subst h1; simp
    · have h2 : ¬ i < #[p, q].size := by simp; omega
      rw [if_neg h2, if_neg h0, if_neg h1]
      rw [Array.getElem?_replicate]
      split <;> rfl
theorem enter_step {p q : Value} : Frame.enter XG.P fT #[p, q] .normal = bT.at ⟨SS (fun i => if i = 0 then p else if i = 1 then q else undef), []⟩ [.code tB] := by
  show Frame.enter Tryz.prog fT _ .normal = _
  rw [enter_at _ Tryz.func15 (show Tryz.f15.body = some tB from rfl)]
  have hn : Tryz.f15.ntmps = 224 := rfl
  rw [hn]
  rw [← lay_SS]
  rfl
theorem step_c (h : LawAt n0 w W n cs) (he : ∀ c ∈ cs, Even c) (ho : OpV.Ok o) (hk : o.k ≤ 5) (hn : n ≤ 4398046511103) (hl : cs.length ≤ 4398046511103) (hN : ∀ b, N b → b < w.heap.size) :
    CRet N kv fT #[.pointer (some ⟨W, 0, none⟩), .agg o.cells] w fun v w' => v = .bool true ∧ StepPost n0 w W n cs w' := fun ks => by
  rw [enter_step, tB_eq]
  generalize hx : (fun i => if i = 0 then (.pointer (some ⟨W, 0, none⟩) : Value) else if i = 1 then .agg o.cells else undef) = x
  have x0 : x 0 = .pointer (some ⟨W, 0, none⟩) := by subst hx; rfl
  have x1 : x 1 = .agg o.cells := by subst hx; rfl
  clear hx
  refine CGo.seq ?_
  refine CGo.jn (R := fun x w' => x 0 = .pointer (some ⟨W, 0, none⟩) ∧ x 3 = .pointer (some ⟨w.heap.size, 0, none⟩) ∧ StepW n0 w' W n cs w.heap.size o ∧ But (fun _ => False) w w') ok_tO (fun _ w1 wc s h => ⟨h.1, h.2.1, stSame h.2.2.1 s, h.2.2.2.trans (But.same' s)⟩) (fun wc s => tO_wp x1 ⟨_, rfl, x0, ?_, ⟨?_, he, ?_⟩, ?_⟩) ?_
  · show Value.pointer (some ⟨wc.heap.size, 0, none⟩) = _
    rw [s.heap]
  · have hb : Below w.heap.size wc (wc.alloc (.cells o.cells 30)) := (Below.refl _ _).alloc (by rw [s.heap]; exact Nat.le_refl _) _
    exact (h.idle (But.same' s)).below (by rw [s.heap]; exact hb)
  · have := heap_alloc_new wc (.cells o.cells 30)
    rw [s.heap] at this
    exact this
  · have hb : Below wc.heap.size wc (wc.alloc (.cells o.cells 30)) := (Below.refl _ _).alloc (Nat.le_refl _) _
    exact (But.same' s).trans (But.of_below hb)
  rintro xa wa ⟨a0, a3, ha, ba⟩
  have pa : But (fun b => n0 ≤ b) w wa := ba.mono fun _ => False.elim
  refine CGo.seq ?_
  by_cases k1 : o.k = 1
  · by_cases hb : 2 ≤ o.b ∧ o.b ≤ 4
    · obtain ⟨m, hm⟩ : ∃ m : Nat, o.b = m := ⟨o.b.toNat, by omega⟩
      exact CGo.retp ok_tN pa fun wc s => tN_yes a0 a3 (stSame ha s) k1 hm (by omega) (by omega) hl
    · exact CGo.retp ok_tN pa fun wc s => tN_no a3 (stSame ha s) k1 (by omega) ho.b
  refine CGo.jn (R := fun x w' => x 0 = .pointer (some ⟨W, 0, none⟩) ∧ x 3 = .pointer (some ⟨w.heap.size, 0, none⟩) ∧ Same wa w') ok_tN (fun _ w1 wc s h => ⟨h.1, h.2.1, h.2.2.trans s⟩) (fun wc s => tN_other a3 (stSame ha s) k1 ⟨_, rfl, a0, a3, s⟩) ?_
  rintro xb wb ⟨b0, b3, sb⟩
  have hb := stSame ha sb
  have pb' : But (fun b => n0 ≤ b) w wb := pa.trans (But.same' sb)
  refine CGo.seq ?_
  by_cases hc : cs = []
  · exact CGo.retp ok_tE pb' fun wc s => tEm_nil b0 (stSame hb s) hc
  have hpos : 0 < cs.length := List.length_pos_iff.2 hc
  refine CGo.jn (R := fun x w' => x 0 = .pointer (some ⟨W, 0, none⟩) ∧ x 3 = .pointer (some ⟨w.heap.size, 0, none⟩) ∧ Same wb w') ok_tE (fun _ w1 wc s h => ⟨h.1, h.2.1, h.2.2.trans s⟩) (fun wc s => Code.wp_mono (fun e a w1 q => Jn.mono (fun x w2 ⟨q1, q2, q3⟩ => ⟨q1, q2, q3 ▸ s⟩) q) (tEm_some b0 b3 (stSame hb s) hpos)) ?_
  rintro xc wc' ⟨c0, c3, sc⟩
  have hc' := stSame hb sc
  have pc' : But (fun b => n0 ≤ b) w wc' := pb'.trans (But.same' sc)
  refine CGo.seq ?_
  obtain ⟨c, hck⟩ : ∃ c, cs[pickN o.a cs.length]? = some c := ⟨_, List.getElem?_eq_getElem (pickN_lt hpos)⟩
  refine CGo.jn (R := fun x w' => x 0 = .pointer (some ⟨W, 0, none⟩) ∧ x 3 = .pointer (some ⟨w.heap.size, 0, none⟩) ∧ x 9 = .pointer (some ⟨wc'.heap.size, 0, none⟩) ∧ PairB w' wc'.heap.size c ∧ But (fun _ => False) wc' w') ok_tP (fun _ w1 w2 s h => ⟨h.1, h.2.1, h.2.2.1, (by unfold PairB; rw [s.heap]; exact h.2.2.2.1), h.2.2.2.2.trans (But.same' s)⟩) (fun wc s => Code.wp_mono (fun e a w1 q => Jn.mono (fun x w2 ⟨q1, q2, q3, q4, q5⟩ => ⟨q1, q2, by rw [q3, s.heap], by rw [← s.heap]; exact q4, (But.same' s).trans (But.of_below q5)⟩) q) (tP_wp c0 c3 (stSame hc' s) hck (by omega) ho.a)) ?_
  rintro xd wd ⟨d0, d3, d9, hp, bd⟩
  have hd : SwW n0 wd W n cs w.heap.size wc'.heap.size (pickN o.a cs.length) o c := ⟨hc'.idle bd, hp, hck⟩
  have pd : But (fun b => n0 ≤ b) w wd := pc'.trans (bd.mono fun _ => False.elim)
  refine CGo.seq (CGo.seq ?_)
  refine CGo.jn (R := fun x w' => FrX W w.heap.size wc'.heap.size o.k x ∧ Same wd w') ok_14 (fun _ w1 wc s h => ⟨h.1, h.2.trans s⟩) (fun wc s => Code.wp_mono (fun e a w1 q => Jn.mono (fun x w2 ⟨q1, q3⟩ => ⟨q1, q3 ▸ s⟩) q) (tR14_wp d0 d3 d9 (swSame hd s))) ?_
  rintro xe we ⟨hxe, se⟩
  refine CGo.block ?_
  refine switch_go hxe (swSame hd se) ho hk hn (fun b hb => ?_) (pd.trans (But.same' se))
  have := (pd.trans (But.same' se)).size
  have := hN b hb
  omega
end
end Go.Proofs.YtkpekiajdlolnabGreat.Ph

/-
  CONTRACTS OF THE LAW's OWN FUNCTIONS (lone): looks: what was handed out still reads as it was written.
-/
namespace Go.Proofs.YtkpekiajdlolnabGreat
open Go.RowKit Go.Maps

section
variable {n0 : Nat} {CS : Value} {w : World}
/-- a cell of a list that was handed out. -/
theorem ListAt.cells {k m cp : Nat} {a : Addr} (h : ListAt w k (.slice (some a) m cp)) : ∀ i, i < m → w.cell? ⟨a.block, i * 2, none⟩ = some (.string mnK) ∧ w.cell? ⟨a.block, i * 2 + 1, none⟩ = some (.string (mnV k)) := fun i hi => by
  obtain ⟨m', ys, hr, hm⟩ := h
  obtain ⟨sa, cp', e⟩ := shape_of hr
  injection e with e1 e2 e3
  subst e2
  obtain ⟨q1, q2⟩ := hm i hi
  have d1 := hr.cells (g := a.block) rfl _ _ q1
  have d2 := hr.cells (g := a.block) rfl _ _ q2
  rw [Addr.add_lit, Nat.zero_add] at d1 d2
  exact ⟨d1, d2⟩
/-- what a list that was handed out looks like. -/
theorem ListAt.shape {k : Nat} {l : Value} (h : ListAt w k l) : (l = .slice none 0 0) ∨ ∃ g m cp, l = .slice (some ⟨g, 0, none⟩) m cp ∧ m ≤ 9223372036854775807 := by
  obtain ⟨m, ys, hr, _⟩ := h
  rcases hr.2 with ⟨e, _⟩ | ⟨g, cap, cur, e, _, _, h4, h5, _⟩
  · exact .inl e
  · exact .inr ⟨g, m, cap, e, by unfold maxLen at h5; omega⟩
set_option maxRecDepth 100000 in
set_option maxHeartbeats 1000000 in
theorem looks_c {W n : Nat} {S : Value} (h : LsAt n0 w W CS S n) (hn : n ≤ 4398046511103) :
    Calls Tryz.prog 16 #[.pointer (some ⟨W, 0, none⟩)] w fun e w' => e = .returned (.bool true) ∧ Below w.heap.size w w' := by
  obtain ⟨c1, c2, c3⟩ := h.cell
  obtain ⟨xs, hx⟩ := h.row
  obtain ⟨sa, cp, rfl⟩ := shape_of hx
  have hxl : xs.length = n := by have := hx.1; omega
  have hk : ∀ k l, xs[k]? = some l → ListAt w k l := fun k l hl => h.kept k l (by rw [heldOf_row hx]; exact hl)
  have hsa : ∀ j, j < n → ∃ g, sa = some ⟨g, 0, none⟩ := fun j hj => by
    rcases hx.2 with ⟨h, hz⟩ | ⟨g, cap, cur, h, _⟩
    · omega
    · injection h with h1; exact ⟨g, h1⟩
  have HX := Lib.hid hx
  have HXL := Lib.hid hxl
  have HK := Lib.hid hk
  have HSA := Lib.hid hsa
  clear h hx hxl hk hsa
  go_enter Tryz.func16, Tryz.ntmps16
  go_wp2
  go_loopw [12] (fun x wr => ∃ k : Nat, k ≤ n ∧ x = .int .i64 k ∧ Hid (Below w.heap.size w wr)) (fun x _ => n - (intOf x).toNat)
  case atStart => exact ⟨0, Nat.zero_le _, rfl, Lib.hid (Below.refl _ _)⟩
  case round =>
    obtain ⟨k, hk, rfl, HB⟩ := hrel
    by_cases hkn : k < n
    · obtain ⟨g0, rfl⟩ := HSA.out k hkn
      obtain ⟨l, hl⟩ : ∃ l, xs[k]? = some l := ⟨_, List.getElem?_eq_getElem (by have := HXL.out; omega)⟩
      have d0 := HX.out.cells (g := g0) rfl k l (by exact hl)
      rw [Addr.add_lit, Nat.zero_add] at d0
      have d1 := (HB.out.cell (World.block_lt_of_cell? w _ d0)).trans d0
      have HL := Lib.hid (HK.out k l hl)
      clear d0 hl
      rcases HL.out.shape with rfl | ⟨g, m, cp', rfl, hm⟩
      · go_wp2
        refine wp_loop_rounds 1 ?_
        rw [rounds_succ]
        go_wp2
        go_roundw
        case rel => exact ⟨k + 1, by omega, rfl, HB⟩
        case measure => simp [intOf]; omega
      · go_wp2
        go_loopw [19] (fun x wr2 => ∃ j : Nat, j ≤ m ∧ x = .int .i64 j ∧ Hid (Below w.heap.size w wr2)) (fun x _ => m - (intOf x).toNat)
        case atStart => exact ⟨0, Nat.zero_le _, rfl, HB⟩
        case round =>
          obtain ⟨j, hj, rfl, HB2⟩ := hrel
          by_cases hjm : j < m
          · obtain ⟨q1, q2⟩ := HL.out.cells j hjm
            have q1 := (HB2.out.cell (World.block_lt_of_cell? w _ q1)).trans q1
            have q2 := (HB2.out.cell (World.block_lt_of_cell? w _ q2)).trans q2
            generalize hxk : mnK = xk at q1
            generalize hxv : mnV k = xv at q2
            have HXX := Lib.hid (And.intro hxk hxv)
            clear hxk hxv
            go_wp2
            have HC0 := Lib.hid ((HB2.out.alloc HB2.out.size (.cells #[.string xk, .string xv] 74)))
            have p1 : (wr.alloc (.cells #[.string xk, .string xv] 74)).cell? ⟨wr.heap.size, 0, none⟩ = some (.string xk) := by go_simp
            have p2 : (wr.alloc (.cells #[.string xk, .string xv] 74)).cell? ⟨wr.heap.size, 1, none⟩ = some (.string xv) := by go_simp
            generalize wr.alloc (.cells #[.string xk, .string xv] 74) = wb at *
            generalize wr.heap.size = bx at *
            go_region_held3 (fun w' => w'.cell? ⟨bx, 0, none⟩ = some (.string xk) ∧ w'.cell? ⟨bx, 1, none⟩ = some (.string xv) ∧ Hid (Below w.heap.size w w'))
              (first | exact ⟨p1, p2, Lib.hid HC0.out.drew⟩ | exact ⟨r1, r2, HC2⟩)
              (first | (go_at_call 38; refine (mark_c k (by omega)).mono ?_; rintro e w2 ⟨⟨ma, mb, hmm, rfl⟩, hb2⟩; obtain rfl : ma = xk := hmm.1.trans HXX.out.1; obtain rfl : mb = xv := hmm.2.trans HXX.out.2; clear hmm; obtain ⟨t1, t2, t3⟩ : _ ∧ _ ∧ Hid (Below w.heap.size w _) := (by assumption); have r1 := (hb2.cell (World.block_lt_of_cell? _ _ t1)).trans t1; have r2 := (hb2.cell (World.block_lt_of_cell? _ _ t2)).trans t2; have HC2 := Lib.hid (t3.out.trans (hb2.mono t3.out.size)); clear hb2 t1 t2 t3))
            go_wp2
            go_roundw
            case rel => exact ⟨j + 1, by omega, rfl, HC2⟩
            case measure => simp [intOf]; omega
          · obtain rfl : j = m := by omega
            go_wp2
            go_roundw
            case rel => exact ⟨k + 1, by omega, rfl, HB2⟩
            case measure => simp [intOf]; omega
    · obtain rfl : k = n := by omega
      go_wp2
      go_ret
      exact ⟨rfl, HB.out⟩
end
end Go.Proofs.YtkpekiajdlolnabGreat

/-
  THE FIRST STAGE: what holds before the k-th step; Plays.
-/
namespace Go.Proofs.YtkpekiajdlolnabGreat.Ph
open Go.Conc Go.ConcN Go.RowKit Go.Maps Go.Conc.Lib Go Go.Proofs.YtkpekiajdlolnabGreat Go.Proofs.YtkpekiajdlolnabGreat.Sim

def StA (n0 : Nat) (w0 : World) (k : Nat) (w : World) : Prop := ∃ n cs, LawAt n0 w n0 n cs ∧ (∀ c ∈ cs, Even c) ∧ (n ≤ k ∧ n ≤ 262144) ∧ cs.length ≤ k ∧ But (fun b => n0 ≤ b) w0 w
theorem newLaw_at (w : World) : LawAt w.heap.size (newLaw w) w.heap.size 0 [] := by
  have hb := heap_alloc_new w (.cells #[.slice none 0 0, .slice none 0 0, .slice none 0 0, .bool false] 36)
  exact ⟨Nat.le_refl _, ⟨.slice none 0 0, .slice none 0 0, ⟨⟨_, hb, rfl, rfl, rfl⟩, ⟨[], World.ownsRow_nil _ _ _ _⟩, fun k l hk => by cases hk⟩, World.ownsRow_nil _ _ _ _⟩, fun c hc => (by cases hc), .nil⟩
theorem newLaw_but (w : World) : But (fun b => w.heap.size ≤ b) w (newLaw w) := But.of_below ((Below.refl _ _).alloc (Nat.le_refl _) _)
theorem StA.new (w : World) : StA w.heap.size w 0 (newLaw w) := ⟨0, [], newLaw_at w, fun c hc => (by cases hc), ⟨Nat.le_refl _, Nat.zero_le _⟩, Nat.le_refl _, newLaw_but w⟩
theorem plays1 {L : Nat} {os : Nat → OpV} {c : Int} {w0 : World} (hok : ∀ i, i < L → OpV.Ok (os i)) (hL : L ≤ 262144) (h1 : c ≠ 0) (h5 : c ≤ 5) : Plays w0.heap.size L os c w0.heap.size w0 (StA w0.heap.size w0) := {
  idle := fun k w w' ⟨n, cs, a1, a2, a3, a4, a5⟩ hb => ⟨n, cs, a1.idle hb, a2, a3, a4, a5.trans (hb.mono fun _ => False.elim)⟩
  keep := fun k w ⟨n, cs, a1, a2, a3, a4, a5⟩ => a5
  skip := fun k w ⟨n, cs, a1, a2, a3, a4, a5⟩ => ⟨n, cs, a1, a2, ⟨by omega, a3.2⟩, by omega, a5⟩
  looks := fun hc k w ⟨n, cs, a1, a2, a3, a4, a5⟩ => by
    obtain ⟨CS, S, h5, _⟩ := a1.b
    exact (looks_c h5 (by omega)).mono fun e w' ⟨h1, h2⟩ => ⟨h1, But.of_below h2⟩
  step := fun k w N kv hk hpl ⟨n, cs, a1, a2, a3, a4, a5⟩ hN => by
    have hkk : (os k).k ≤ 5 := by
      rcases hpl with h | h
      · omega
      · rw [show stageN c = 1 by unfold stageN; rw [if_pos h5]] at h
        unfold stageN at h
        split at h
        · assumption
        · split at h
          · omega
          · split at h <;> omega
    have := step_c (N := N) (kv := kv) (o := os k) a1 a2 (hok k hk) hkk (by omega) (by omega) fun b hb => Nat.lt_of_lt_of_le (hN b hb) a5.size
    intro ks
    refine (this ks).mono fun fr w' ⟨r1, v, r2, r3, r4, n', cs', r5, r6, r7, r8, r9⟩ => ⟨r1, v, r2, r3, r4, n', cs', r5, r6, ⟨by omega, by omega⟩, by omega, a5.trans r9⟩ }
end Go.Proofs.YtkpekiajdlolnabGreat.Ph
