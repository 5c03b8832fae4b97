/-
 PROVED IN PARTS: text 6 of 8 of the carrying ground of the claim (see each part's own remark). Conditions: those that each theorem names.
-/
import Derived.Test.YtkpekiajdlolnabGreatM05
import Derived.Test.YtkpekiajdlolnabGreatM04
import Derived.Deep.RegionWith
import Derived.Carry
import Derived.Deep.AppendLies
import Derived.Deep.RegionLaw
import Derived.Laws.BitsAllLaws
import Derived.Lib.Hide
import Derived.Laws.IdiomStrings
import Derived.Deep.RegionHeld3
set_option linter.unusedVariables false
set_option linter.unusedSimpArgs false
set_option maxRecDepth 100000
set_option maxHeartbeats 4000000
namespace Go.Proofs.YtkpekiajdlolnabGreat
section
open Go.RowKit Go.Maps
def cat (L : Nat → KV) (f : Bs × Bs → Bool) : Nat → KV
 |0 => []
 |i + 1 => cat L f i ++ (L i).filter f
def jm (L : Nat → KV) (f : Bs × Bs → Bool) (most : Nat) (i j : Nat) : KV := (cat L f i ++ ((L i).take j).filter f).take most
theorem qeo {L : Nat → KV} {f : Bs × Bs → Bool} {most i : Nat} : jm L f most i (L i).length = jm L f most (i + 1) 0 := by
 unfold jm
 rw [List.take_length]
 simp [cat]
theorem vk {L : Nat → KV} {f : Bs × Bs → Bool} {most i j : Nat} {p : Bs × Bs} (hp : (L i)[j]? = some p) :
  jm L f most i (j + 1) = if f p && decide ((jm L f most i j).length < most) then jm L f most i j ++ [p] else jm L f most i j := by
 unfold jm
 rw [qbx f hp]
 cases hf : f p
 ·simp
 ·simp only [if_true, Bool.true_and, decide_eq_true_eq]
  rw [← List.append_assoc]
  generalize cat L f i ++ List.filter f (List.take j (L i)) = X
  split
  ·rename_i hlt
   rw [List.length_take] at hlt
   rw [List.take_of_length_le (by simp; omega), List.take_of_length_le (by omega)]
  ·rename_i hge
   rw [List.length_take] at hge
   rw [List.take_append_of_le_length (by omega)]
theorem qv9 {L : Nat → KV} {f : Bs × Bs → Bool} (h : ∀ i, i < 4 → (L i).length ≤ 12) : ∀ i, i ≤ 4 → (cat L f i).length ≤ i * 12
 |0, _ => by simp [cat]
 |i + 1, hi => by
  have := qv9 (f := f) h i (by omega)
  have h2 := List.length_filter_le f (L i)
  have h3 := h i (by omega)
  simp only [cat, List.length_append]
  omega
theorem qrn {L : Nat → KV} {f : Bs × Bs → Bool} {most i j : Nat} (h : ∀ i, i < 4 → (L i).length ≤ 12) (hi : i < 4) : (jm L f most i j).length ≤ 48 := by
 unfold jm
 have := qv9 (f := f) h i (by omega)
 have h2 := List.length_filter_le f ((L i).take j)
 have h3 := h i hi
 rw [List.length_take] at h2
 rw [List.length_take, List.length_append]
 omega
def qtc (w : World) (l : KV) (e : Ending) (w' : World) : Prop := ∃ v, e = .returned (.tuple #[v, .int .i64 0]) ∧ yh w' w.heap.size v l ∧ Below w.heap.size w w'
structure ScW (W : World) (ml sb : Nat) (lv : Nat → Value) (mp : Nat → Option Addr) (L : Nat → KV) (f : Bs × Bs → Bool) (most i j : Nat) (out : Value) (w : World) : Prop where
 row : yh w W.heap.size out (jm L f most i j)
 below : Below W.heap.size W w
 mdl : Mdl w ml sb lv mp L
section
variable {w : World} {ml sb : Nat} {lv : Nat → Value} {mp : Nat → Option Addr} {L : Nat → KV} {f : Bs × Bs → Bool} {most i j : Nat} {out : Value}
theorem ScW.alloc {W : World} (h : ScW W ml sb lv mp L f most i j out w) (o : Obj) : ScW W ml sb lv mp L f most i j out (w.alloc o) :=
 ⟨⟨h.row.1.alloc o, h.row.2.alloc o⟩, h.below.alloc h.below.size o, h.mdl.below ((jo _ _).alloc (jy _) o)⟩
theorem ScW.next {W : World} (h : ScW W ml sb lv mp L f most i (L i).length out w) : ScW W ml sb lv mp L f most (i + 1) 0 out w := ⟨qeo ▸ h.row, h.below, h.mdl⟩
theorem ScW.skip {W : World} (h : ScW W ml sb lv mp L f most i j out w) {p : Bs × Bs} (hp : (L i)[j]? = some p) (hno : (f p && decide ((jm L f most i j).length < most)) = false) : ScW W ml sb lv mp L f most i (j + 1) out w :=
 ⟨by rw [vk hp, hno]; exact h.row, h.below, h.mdl⟩
theorem ScW.app {W : World} (h : ScW W ml sb lv mp L f most i j out w) {p : Bs × Bs} (hp : (L i)[j]? = some p) (qm6 : (f p && decide ((jm L f most i j).length < most)) = true) {v' : Value} {w2 : World} (hg : w.grownBy w2 out.ownBlock)
  (hml : ml < W.heap.size) (hold : Mdl W ml sb lv mp L)
  (hr : w2.ownsRow W.heap.size 74 2 v' ((jm L f most i j).length + 1) (flat (jm L f most i j) ++ [sv p.1, sv p.2])) (ha : qcf w2 v') : ScW W ml sb lv mp L f most i (j + 1) v' w2 := by
 have hb := zo h.below hg h.row.1 (jy _) h.below.size
 refine ⟨?_, hb, hold.below hb⟩
 rw [vk hp, qm6, if_pos rfl]
 exact qdj hr ha (jy _) (by rw [qb9]; rfl)
theorem Src.jbc (w : World) (o : Obj) (a b : ByteArray) (ty : TypeId) : Src ((w.alloc o).alloc (.cells #[.string a, .string b] ty)) (some ⟨w.heap.size + 1, 0, none⟩) 1 [.string a, .string b] := by
 have h := Src.one (w.alloc o) a b ty
 have e : (w.alloc o).heap.size = w.heap.size + 1 := by simp
 rwa [e] at h
theorem qex {b : ByteArray} {l : Bs} (h : b.data.toList = l) : sv l = .string b := by rw [← h]; exact qks b
theorem qma {w : World} {base n : Nat} {v : Value} {xs : List Value} (h : w.ownsRow base 74 2 v n xs) : ∃ sa cp, v = .slice sa n cp := by
 rcases h.2 with ⟨rfl, hz⟩ | ⟨g, cap, cur, rfl, _⟩
 ·exact ⟨none, 0, by rw [hz]⟩
 ·exact ⟨_, _, rfl⟩
theorem qy7 (s t : ByteArray) (m : Int) (hm : m < 0) : Calls Tryz.prog 28 #[.pointer (some ⟨ml, 0, none⟩), .string s, .string t, .int .i64 m] w fun e w' => e = .returned (.tuple #[.slice none 0 0, .int .i64 7]) ∧ w' = w := by
 have g1 : decide (m < 0) = true := xdt hm
 go_enter Tryz.func28, Tryz.ntmps28
 go_wp2
 go_ret2
 exact ⟨rfl, rfl⟩
theorem quk (hm : Mdl w ml sb lv mp L) (hL : ∀ i, i < 4 → (L i).length ≤ 12) (s t : ByteArray) (qj2 : most ≤ 9223372036854775807) :
  Calls Tryz.prog 28 #[.pointer (some ⟨ml, 0, none⟩), .string s, .string t, .int .i64 most] w (qtc w ((cat L (inB s.data.toList t.data.toList) 4).take most)) := by
 have g0 : decide ((most : Int) < 0) = false := by simp
 obtain ⟨cap, hs⟩ := hm.s
 have HM := Lib.hid hm
 have HL := Lib.hid hL
 have HML := Lib.hid hm.lts.1
 clear hm hL
 obtain ⟨f, hf⟩ : ∃ f, inB s.data.toList t.data.toList = f := ⟨_, rfl⟩
 rw [hf]
 have HF := Lib.hid hf
 clear hf
 go_enter Tryz.func28, Tryz.ntmps28
 go_wp2
 go_loopw [10, 22] (fun out x wr => ∃ i : Nat, i ≤ 4 ∧ x = .int .i64 i ∧ ∃ sa n cp, out = .slice sa n cp ∧ Hid (n = (jm L f most i 0).length ∧ ScW w ml sb lv mp L f most i 0 (.slice sa n cp) wr)) (fun _ x _ => 4 - (intOf x).toNat)
 case atStart => exact ⟨0, by omega, rfl, none, 0, 0, rfl, Lib.hid ⟨by simp [jm, cat], ⟨by simpa [jm, cat, qbk] using World.ownsRow_nil w w.heap.size 74 2, qcf.nil _⟩, jo _ _, HM.out⟩⟩
 case round =>
  obtain ⟨i, hi, rfl, sa, n, cp, rfl, HP⟩ := hrel
  by_cases hi4 : i < 4
  ·obtain ⟨c1, c2, _⟩ := HP.out.2.mdl.cl hi4
   obtain ⟨o, c0⟩ := HP.out.2.mdl.owner hi4
   rcases (HP.out.2.mdl.r i hi4).1.2 with ⟨hnil, hz⟩ | ⟨g, gc, cur, hv, _⟩
   ·rw [hnil] at c1
    have HX := Lib.hid (fun (o : Obj) => (show ScW w ml sb lv mp L f most i (L i).length (.slice sa n cp) _ from hz ▸ HP.out.2.alloc o).next)
    have HNX : Hid (jm L f most i 0 = jm L f most (i + 1) 0) := by rw [← qeo, hz]; rfl
    clear hnil hz
    go_wp2
    refine wp_loop_rounds 1 ?_
    rw [rounds_succ]
    go_wp2
    go_roundw
    case rel => exact ⟨i + 1, by omega, rfl, sa, n, cp, rfl, Lib.hid ⟨by rw [← HNX.out]; exact HP.out.1, HX.out _⟩⟩
    case measure => simp [intOf]; omega
   ·rw [hv] at c1
    have HV := Lib.hid hv
    have HLi := HL.out i hi4
    clear hv
    go_wp2
    go_loopw [10, 29] (fun out x wr2 => ∃ j : Nat, j ≤ (L i).length ∧ x = .int .i64 j ∧ ∃ sa n cp, out = .slice sa n cp ∧ Hid (n = (jm L f most i j).length ∧ ScW w ml sb lv mp L f most i j (.slice sa n cp) wr2)) (fun _ x _ => (L i).length - (intOf x).toNat)
    case atStart => exact ⟨0, by omega, rfl, sa, n, cp, rfl, Lib.hid ⟨HP.out.1, HP.out.2.alloc _⟩⟩
    case round =>
     obtain ⟨j, hj, rfl, sa2, n2, cp2, rfl, HP2⟩ := hrel
     have HBD : Hid ((jm L f most i j).length + 1 ≤ 1073741824) := by
      have := qrn (f := f) (most := most) (j := j) HL.out hi4
      show _ ≤ _
      omega
     by_cases hjl : j < (L i).length
     ·obtain ⟨p, hp⟩ : ∃ p, (L i)[j]? = some p := ⟨_, List.getElem?_eq_getElem hjl⟩
      obtain ⟨q1, q2⟩ := flat_get (L i) j p hp
      have d1 := (HP2.out.2.mdl.r i hi4).1.cells (g := g) (by rw [HV.out]; rfl) _ _ q1
      have d2 := (HP2.out.2.mdl.r i hi4).1.cells (g := g) (by rw [HV.out]; rfl) _ _ q2
      rw [Addr.add_lit, Nat.zero_add] at d1 d2
      have HPP := Lib.hid hp
      obtain ⟨pk, e1⟩ : ∃ b : ByteArray, b.data.toList = p.1 := ⟨⟨p.1.toArray⟩, by simp⟩
      obtain ⟨pv, e2⟩ : ∃ b : ByteArray, b.data.toList = p.2 := ⟨⟨p.2.toArray⟩, by simp⟩
      rw [qex e1] at d1
      rw [qex e2] at d2
      have q0f := Lib.hid (And.intro e1 e2)
      have qcv : f p = (!Op.bytesLess pk.toList s.toList && (t.toList.isEmpty || Op.bytesLess pk.toList t.toList)) := by
       rw [← HF.out, qdh, qdh, ByteArray.toList_eq, ByteArray.toList_eq, ByteArray.toList_eq, e1]; rfl
      clear q1 q2 hp e1 e2
      cases g1 : Op.bytesLess pk.toList s.toList
      ·by_cases hlt : n2 < most
       ·have g4 : decide ((n2 : Int) < (most : Int)) = true := by simp; omega
        cases g2 : t.toList.isEmpty
        ·cases g3 : Op.bytesLess pk.toList t.toList
         ·have hfp : f p = false := by rw [qcv, g1, g2, g3]; rfl
          clear qcv
          have hno : (f p && decide ((jm L f most i j).length < most)) = false := by rw [hfp]; rfl
          have HSK := Lib.hid (fun o => (HP2.out.2.alloc o).skip HPP.out hno)
          have HLN := Lib.hid (vk (most := most) (f := f) HPP.out)
          rw [hno] at HLN
          clear hno hfp
          go_wp2
          go_roundw
          case rel => exact ⟨j + 1, by omega, rfl, sa2, n2, cp2, rfl, Lib.hid ⟨by rw [HLN.out]; exact HP2.out.1, HSK.out _⟩⟩
          case measure => simp [intOf]; omega
         ·have hfp : f p = true := by rw [qcv, g1, g2, g3]; rfl
          clear qcv
          have qm6 : (f p && decide ((jm L f most i j).length < most)) = true := by simp only [hfp, Bool.true_and]; exact xdt (by rw [← HP2.out.1]; exact hlt)
          have qmn := Lib.hid (fun (v' : Value) (w1 w2 : World) (h : ScW w ml sb lv mp L f most i j (.slice sa2 n2 cp2) w1) => h.app (v' := v') (w2 := w2) HPP.out qm6)
          have HLN := Lib.hid (vk (most := most) (f := f) HPP.out)
          rw [qm6] at HLN
          have HSV := Lib.hid (And.intro (qex q0f.out.1) (qex q0f.out.2))
          clear qm6 hfp
          go_wp2_with (at_builtin; refine j6 (v := .slice sa2 n2 cp2) rfl (.tmp 53) (.tmp 55) rfl rfl rfl ((HP2.out.2.alloc _).row.1.alloc _) ((HP2.out.2.alloc _).row.2.alloc _) (Src.jbc _ _ pk pv _) HBD.out (xlt HP2.out.2.below.size (by simp; omega)) ?_; intro v3 w3 hrow3 qca hg3; obtain ⟨sa3, cp3, hv3⟩ := qma hrow3; have HP3 := Lib.hid (qmn.out v3 _ w3 ((HP2.out.2.alloc _).alloc _) hg3 HML.out HM.out (by rw [HSV.out.1, HSV.out.2]; exact hrow3) qca); rw [hv3] at HP3; rw [hv3]; clear hrow3 qca hg3 hv3)
          go_roundw
          case rel => exact ⟨_, _, _, ⟨j + 1, by omega, rfl, sa3, _, cp3, rfl, Lib.hid ⟨by rw [HLN.out]; simp, HP3.out⟩⟩, rfl, rfl, rfl⟩
          case measure => simp [intOf]; omega
        ·have hfp : f p = true := by rw [qcv, g1, g2]; rfl
         clear qcv
         have qm6 : (f p && decide ((jm L f most i j).length < most)) = true := by simp only [hfp, Bool.true_and]; exact xdt (by rw [← HP2.out.1]; exact hlt)
         have qmn := Lib.hid (fun (v' : Value) (w1 w2 : World) (h : ScW w ml sb lv mp L f most i j (.slice sa2 n2 cp2) w1) => h.app (v' := v') (w2 := w2) HPP.out qm6)
         have HLN := Lib.hid (vk (most := most) (f := f) HPP.out)
         rw [qm6] at HLN
         have HSV := Lib.hid (And.intro (qex q0f.out.1) (qex q0f.out.2))
         clear qm6 hfp
         go_wp2_with (at_builtin; refine j6 (v := .slice sa2 n2 cp2) rfl (.tmp 53) (.tmp 55) rfl rfl rfl ((HP2.out.2.alloc _).row.1.alloc _) ((HP2.out.2.alloc _).row.2.alloc _) (Src.jbc _ _ pk pv _) HBD.out (xlt HP2.out.2.below.size (by simp; omega)) ?_; intro v3 w3 hrow3 qca hg3; obtain ⟨sa3, cp3, hv3⟩ := qma hrow3; have HP3 := Lib.hid (qmn.out v3 _ w3 ((HP2.out.2.alloc _).alloc _) hg3 HML.out HM.out (by rw [HSV.out.1, HSV.out.2]; exact hrow3) qca); rw [hv3] at HP3; rw [hv3]; clear hrow3 qca hg3 hv3)
         go_roundw
         case rel => exact ⟨_, _, _, ⟨j + 1, by omega, rfl, sa3, _, cp3, rfl, Lib.hid ⟨by rw [HLN.out]; simp, HP3.out⟩⟩, rfl, rfl, rfl⟩
         case measure => simp [intOf]; omega
       ·have g4 : decide ((n2 : Int) < (most : Int)) = false := by simp; omega
        cases g2 : t.toList.isEmpty
        ·cases g3 : Op.bytesLess pk.toList t.toList
         ·have hfp : f p = false := by rw [qcv, g1, g2, g3]; rfl
          clear qcv
          have hno : (f p && decide ((jm L f most i j).length < most)) = false := by rw [hfp]; rfl
          have HSK := Lib.hid (fun o => (HP2.out.2.alloc o).skip HPP.out hno)
          have HLN := Lib.hid (vk (most := most) (f := f) HPP.out)
          rw [hno] at HLN
          clear hno hfp
          go_wp2
          go_roundw
          case rel => exact ⟨j + 1, by omega, rfl, sa2, n2, cp2, rfl, Lib.hid ⟨by rw [HLN.out]; exact HP2.out.1, HSK.out _⟩⟩
          case measure => simp [intOf]; omega
         ·have hfp : f p = true := by rw [qcv, g1, g2, g3]; rfl
          clear qcv
          have hno : (f p && decide ((jm L f most i j).length < most)) = false := by simp only [hfp, Bool.true_and]; exact xdf (by rw [← HP2.out.1]; exact hlt)
          have HSK := Lib.hid (fun o => (HP2.out.2.alloc o).skip HPP.out hno)
          have HLN := Lib.hid (vk (most := most) (f := f) HPP.out)
          rw [hno] at HLN
          clear hno hfp
          go_wp2
          go_roundw
          case rel => exact ⟨j + 1, by omega, rfl, sa2, n2, cp2, rfl, Lib.hid ⟨by rw [HLN.out]; exact HP2.out.1, HSK.out _⟩⟩
          case measure => simp [intOf]; omega
        ·have hfp : f p = true := by rw [qcv, g1, g2]; rfl
         clear qcv
         have hno : (f p && decide ((jm L f most i j).length < most)) = false := by simp only [hfp, Bool.true_and]; exact xdf (by rw [← HP2.out.1]; exact hlt)
         have HSK := Lib.hid (fun o => (HP2.out.2.alloc o).skip HPP.out hno)
         have HLN := Lib.hid (vk (most := most) (f := f) HPP.out)
         rw [hno] at HLN
         clear hno hfp
         go_wp2
         go_roundw
         case rel => exact ⟨j + 1, by omega, rfl, sa2, n2, cp2, rfl, Lib.hid ⟨by rw [HLN.out]; exact HP2.out.1, HSK.out _⟩⟩
         case measure => simp [intOf]; omega
      ·have hfp : f p = false := by rw [qcv, g1]; rfl
       clear qcv
       have hno : (f p && decide ((jm L f most i j).length < most)) = false := by rw [hfp]; rfl
       have HSK := Lib.hid (fun o => (HP2.out.2.alloc o).skip HPP.out hno)
       have HLN := Lib.hid (vk (most := most) (f := f) HPP.out)
       rw [hno] at HLN
       clear hno hfp
       go_wp2
       go_roundw
       case rel => exact ⟨j + 1, by omega, rfl, sa2, n2, cp2, rfl, Lib.hid ⟨by rw [HLN.out]; exact HP2.out.1, HSK.out _⟩⟩
       case measure => simp [intOf]; omega
     ·obtain rfl : j = (L i).length := by omega
      have HNX : Hid (jm L f most i (L i).length = jm L f most (i + 1) 0) := Lib.hid qeo
      have HX := Lib.hid HP2.out.2.next
      go_wp2
      go_roundw
      case rel => exact ⟨i + 1, by omega, rfl, sa2, n2, cp2, rfl, Lib.hid ⟨by rw [← HNX.out]; exact HP2.out.1, HX.out⟩⟩
      case measure => simp [intOf]; omega
  ·obtain rfl : i = 4 := by omega
   have HE := Lib.hid HP.out.2
   go_wp2
   go_ret2
   exact ⟨_, rfl, by simpa [jm] using HE.out.row, HE.out.below⟩
end
structure Cst where
 A : PA
 B : MA
 F : Nat → Prop
 G : Nat → Prop
 s : St
 t : St
def Cst.own (c : Cst) (b : Nat) : Prop := c.F b ∨ c.G b
structure qav (n0 : Nat) (w : World) (c : Cst) : Prop where
 p : PAt w c.F c.A c.s
 m : MAt w c.G c.B c.t
 lo : ∀ b, c.own b → n0 ≤ b ∧ b < w.heap.size
 fg : ∀ b, c.F b → ¬ c.G b
def Apart (c d : Cst) : Prop := ∀ b, c.own b → ¬ d.own b
theorem Apart.symm {c d : Cst} (h : Apart c d) : Apart d c := fun b h1 h2 => h b h2 h1
def qe2 (cs : List Cst) : List Value := cs.flatMap fun c => [.pointer (some ⟨c.A.cl, 0, none⟩), .pointer (some ⟨c.B.ml, 0, none⟩)]
theorem qpb (a b : List Cst) : qe2 (a ++ b) = qe2 a ++ qe2 b := List.flatMap_append
theorem qpc : ∀ (cs : List Cst) (k : Nat) (c : Cst), cs[k]? = some c → (qe2 cs)[k * 2]? = some (.pointer (some ⟨c.A.cl, 0, none⟩)) ∧ (qe2 cs)[k * 2 + 1]? = some (.pointer (some ⟨c.B.ml, 0, none⟩))
 | [], k, p, h => by simp at h
 |q :: L, 0, p, h => by simp at h; subst h; exact ⟨rfl, rfl⟩
 |q :: L, k + 1, p, h => by
  show ((.pointer (some ⟨q.A.cl, 0, none⟩) : Value) :: .pointer (some ⟨q.B.ml, 0, none⟩) :: qe2 L)[(k + 1) * 2]? = _ ∧ ((.pointer (some ⟨q.A.cl, 0, none⟩) : Value) :: .pointer (some ⟨q.B.ml, 0, none⟩) :: qe2 L)[(k + 1) * 2 + 1]? = _
  rw [show (k + 1) * 2 = k * 2 + 1 + 1 by omega]
  simpa using qpc L k p (by simpa using h)
theorem quf (cs : List Cst) (k : Nat) (c d : Cst) (h : cs[k]? = some c) (e1 : d.A.cl = c.A.cl) (e2 : d.B.ml = c.B.ml) : qe2 (cs.set k d) = qe2 cs := by
 induction cs generalizing k with
 |nil => rfl
 |cons q L ih =>
  cases k with
  |zero => simp at h; subst h; simp [qe2, e1, e2]
  |succ k => simp only [List.set_cons_succ]; show _ :: _ :: qe2 (L.set k d) = _ :: _ :: qe2 L; rw [ih k (by simpa using h)]
def qns (W : Nat) (CS : qji) (S : Value) (b : Nat) : Prop := b = W ∨ CS.cs.ownBlock = some b ∨ CS.bs.ownBlock = some b ∨ S.ownBlock = some b
structure qgq (n0 : Nat) (w : World) (W : Nat) (n : Nat) (cs : List Cst) (CS : qji) (S : Value) (m : Nat) (bs : List Bs) : Prop where
 ls : qbw n0 w W CS S m
 cr : w.ownsRow n0 56 2 CS.cs cs.length (qe2 cs)
 br : w.ownsRow n0 9 1 CS.bs bs.length (bs.map sv)
 le : m ≤ n ∧ bs.length ≤ n
 out : CS.out = fun b => ∃ c ∈ cs, c.own b
 off : ∀ b, qns W CS S b → ¬ CS.out b
structure jr (n0 : Nat) (w : World) (W : Nat) (n : Nat) (cs : List Cst) : Prop where
 lo : n0 ≤ W
 b : ∃ CS S m bs, qgq n0 w W n cs CS S m bs
 each : ∀ c ∈ cs, qav n0 w c
 apart : cs.Pairwise Apart
section
variable {n0 : Nat} {w w' : World} {W n k m : Nat} {cs : List Cst} {c d : Cst} {CS : qji} {S : Value} {bs : List Bs}
theorem qav.frame (h : qav n0 w c) (k : ∀ b, c.own b → w'.heap[b]? = w.heap[b]?) (hs : w.heap.size ≤ w'.heap.size) : qav n0 w' c :=
 ⟨h.p.frame fun b hb => k b (.inl hb), h.m.frame fun b hb => k b (.inr hb), fun b hb => ⟨(h.lo b hb).1, xll (h.lo b hb).2 hs⟩, h.fg⟩
theorem qav.but {B : Nat → Prop} (h : qav n0 w c) (hb : But B w w') (hn : ∀ b, c.own b → ¬ B b) : qav n0 w' c := h.frame (fun b hbb => hb.keep b (h.lo b hbb).2 (hn b hbb)) hb.size
theorem qav.idle (h : qav n0 w c) (hb : But (fun _ => False) w w') : qav n0 w' c := h.but hb fun _ _ => id
theorem qav.prog {A' : PA} {s' : St} (h : qav n0 w c) (hn : n0 ≤ w.heap.size) (hb : But c.F w w') (hp : PAt w' (fun b => c.F b ∨ w.heap.size ≤ b) A' s') :
  qav n0 w' { c with A := A', F := fun b => (c.F b ∨ w.heap.size ≤ b) ∧ b < w'.heap.size, s := s' } := by
 refine ⟨hp.lts, h.m.frame fun b hg => hb.keep b (h.lo b (.inr hg)).2 fun hf => h.fg b hf hg, fun b hbb => ?_, fun b hf hg => ?_⟩
 ·rcases hbb with ⟨h1 | h1, h2⟩ | h1
  ·exact ⟨(h.lo b (.inl h1)).1, h2⟩
  ·exact ⟨by omega, h2⟩
  ·exact ⟨(h.lo b (.inr h1)).1, xll (h.lo b (.inr h1)).2 hb.size⟩
 ·rcases hf with ⟨h1 | h1, h2⟩
  ·exact h.fg b h1 hg
  ·have := (h.lo b (.inr hg)).2; omega
theorem qav.doc {B' : MA} {t' : St} (h : qav n0 w c) (hn : n0 ≤ w.heap.size) (hb : But c.G w w') (hp : MAt w' (fun b => c.G b ∨ w.heap.size ≤ b) B' t') :
  qav n0 w' { c with B := B', G := fun b => (c.G b ∨ w.heap.size ≤ b) ∧ b < w'.heap.size, t := t' } := by
 refine ⟨h.p.frame fun b hf => hb.keep b (h.lo b (.inl hf)).2 (h.fg b hf), hp.lts, fun b hbb => ?_, fun b hf hg => ?_⟩
 ·rcases hbb with h1 | ⟨h1 | h1, h2⟩
  ·exact ⟨(h.lo b (.inl h1)).1, xll (h.lo b (.inl h1)).2 hb.size⟩
  ·exact ⟨(h.lo b (.inr h1)).1, h2⟩
  ·exact ⟨by omega, h2⟩
 ·rcases hg with ⟨h1 | h1, h2⟩
  ·exact h.fg b hf h1
  ·have := (h.lo b (.inl hf)).2; omega
theorem jr.two (h : jr n0 w W n cs) {i j : Nat} (hc : cs[i]? = some c) (hd : cs[j]? = some d) (hij : i ≠ j) : Apart c d := by
 obtain ⟨hi, rfl⟩ := List.getElem?_eq_some_iff.1 hc
 obtain ⟨hj, rfl⟩ := List.getElem?_eq_some_iff.1 hd
 rcases Nat.lt_or_ge i j with h1 | h1
 ·exact List.pairwise_iff_getElem.1 h.apart i j hi hj h1
 ·exact (List.pairwise_iff_getElem.1 h.apart j i hj hi (by omega)).symm
theorem qgq.lt (h : qgq n0 w W n cs CS S m bs) {b : Nat} (hb : qns W CS S b) : b < w.heap.size := by
 obtain ⟨xs, h6⟩ := h.ls.row
 rcases hb with e | e | e | e
 ·subst e; exact h.ls.cell.2.2
 ·exact (h.cr.lt b e).2
 ·exact (h.br.lt b e).2
 ·exact (h6.lt b e).2
theorem qgq.qj1 (h : qgq n0 w W n cs CS S m bs) {g : Nat} (hg : qad w S g) : g < w.heap.size := by
 obtain ⟨_, hz⟩ := h.ls.qi0 hg
 exact (zx hz).1
theorem qbw.avoid {O : Nat → Prop} (h : qbw n0 w W CS S m) (ho : ∀ g, qad w S g → ¬ O g) : qbw n0 w W { CS with out := O } S m := ⟨h.b, h.row, h.kept, ho⟩
theorem jr.turn (h : jr n0 w W n cs) (hk : cs[k]? = some c) {B : Nat → Prop} (hb : But B w w') (hB : ∀ b, B b → c.own b) (hd : qav n0 w' d) (e1 : d.A.cl = c.A.cl) (e2 : d.B.ml = c.B.ml) (hown : ∀ b, d.own b → c.own b ∨ w.heap.size ≤ b) : jr n0 w' W n (cs.set k d) := by
 obtain ⟨CS, S, m, bs, hw⟩ := h.b
 have hm := List.mem_of_getElem? hk
 have hcc := h.each c hm
 have qxm : ∀ b, qns W CS S b → w'.heap[b]? = w.heap[b]? := fun b hbb => hb.keep b (hw.lt hbb) fun e => hw.off b hbb (by rw [hw.out]; exact ⟨c, hm, hB b e⟩)
 have jaj : ∀ b, qad w S b → w'.heap[b]? = w.heap[b]? := fun b hbb => hb.keep b (hw.qj1 hbb) fun e => hw.ls.out b hbb (by rw [hw.out]; exact ⟨c, hm, hB b e⟩)
 have hls : qbw n0 w' W CS S m := hw.ls.block (qxm W (.inl rfl)) (fun g hg => qxm g (.inr (.inr (.inr hg)))) jaj
 have hsub : ∀ b, (∃ x ∈ cs.set k d, x.own b) → (∃ x ∈ cs, x.own b) ∨ w.heap.size ≤ b := fun b ⟨x, hx, hxb⟩ => by
  rcases List.mem_or_eq_of_mem_set hx with hx | hx
  ·exact .inl ⟨x, hx, hxb⟩
  ·subst hx
   exact (hown b hxb).imp (fun h => ⟨c, hm, h⟩) id
 refine ⟨h.lo, ⟨{ CS with out := fun b => ∃ x ∈ cs.set k d, x.own b }, S, m, bs, ⟨hls.avoid fun g hg ho => ?_, ?_, qj hw.br fun g hg => qxm g (.inr (.inr (.inl hg))), hw.le, rfl, fun b hbb ho => ?_⟩⟩, fun x hx => ?_, ?_⟩
 ·have hg' : qad w S g := by unfold qad at hg ⊢; rw [x9 fun q hq => qxm q (.inr (.inr (.inr hq)))] at hg; exact hg
  rcases hsub g ho with h1 | h1
  ·exact hw.ls.out g hg' (by rw [hw.out]; exact h1)
  ·have := hw.qj1 hg'; omega
 ·rw [quf cs k c d hk e1 e2, List.length_set]
  exact qj hw.cr fun g hg => qxm g (.inr (.inl hg))
 ·have hbb : qns W CS S b := hbb
  rcases hsub b ho with h1 | h1
  ·exact hw.off b hbb (by rw [hw.out]; exact h1)
  ·have := hw.lt hbb; omega
 ·obtain ⟨j, hj⟩ := List.mem_iff_getElem?.1 hx
  by_cases e : j = k
  ·subst e
   rw [List.getElem?_set_self (List.getElem?_eq_some_iff.1 hk).1] at hj
   cases hj
   exact hd
  ·rw [List.getElem?_set_ne (fun x => e x.symm)] at hj
   exact (h.each x (List.mem_of_getElem? hj)).but hb fun b hxb hbb => h.two hk hj (fun x => e x.symm) b (hB b hbb) hxb
 ·have key : ∀ x ∈ cs, Apart c x → Apart d x := fun x hx ha b hdb hxb => by
   rcases hown b hdb with h1 | h1
   ·exact ha b h1 hxb
   ·have := ((h.each x hx).lo b hxb).2; omega
  rw [List.pairwise_iff_getElem]
  intro i j hi hj hij
  simp only [List.length_set] at hi hj
  have ha := List.pairwise_iff_getElem.1 h.apart i j hi hj hij
  rw [List.getElem_set, List.getElem_set]
  have hck : cs[k]'(List.getElem?_eq_some_iff.1 hk).1 = c := (List.getElem?_eq_some_iff.1 hk).2
  split
  ·rename_i e
   subst e
   rw [if_neg (by omega)]
   rw [hck] at ha
   exact key _ (List.getElem_mem hj) ha
  ·split
   ·rename_i e1 e
    subst e
    rw [hck] at ha
    exact (key _ (List.getElem_mem hi) ha.symm).symm
   ·exact ha
theorem jr.qig (h : jr n0 w W n cs) : n0 ≤ w.heap.size := by
 obtain ⟨CS, S, m, bs, hw⟩ := h.b
 have := hw.ls.cell.2.2
 have := h.lo
 omega
theorem jr.prog (h : jr n0 w W n cs) (hk : cs[k]? = some c) {A' : PA} {s' : St} (hb : But c.F w w') (hp : PAt w' (fun b => c.F b ∨ w.heap.size ≤ b) A' s') (e : A'.cl = c.A.cl) :
  jr n0 w' W n (cs.set k { c with A := A', F := fun b => (c.F b ∨ w.heap.size ≤ b) ∧ b < w'.heap.size, s := s' }) :=
 h.turn hk hb (fun b hb => .inl hb) ((h.each c (List.mem_of_getElem? hk)).prog h.qig hb hp) e rfl fun b hbb => by
  rcases hbb with ⟨h1 | h1, _⟩ | h1
  ·exact .inl (.inl h1)
  ·exact .inr h1
  ·exact .inl (.inr h1)
theorem jr.doc (h : jr n0 w W n cs) (hk : cs[k]? = some c) {B' : MA} {t' : St} (hb : But c.G w w') (hp : MAt w' (fun b => c.G b ∨ w.heap.size ≤ b) B' t') (e : B'.ml = c.B.ml) :
  jr n0 w' W n (cs.set k { c with B := B', G := fun b => (c.G b ∨ w.heap.size ≤ b) ∧ b < w'.heap.size, t := t' }) :=
 h.turn hk hb (fun b hb => .inr hb) ((h.each c (List.mem_of_getElem? hk)).doc h.qig hb hp) rfl e fun b hbb => by
  rcases hbb with h1 | ⟨h1 | h1, _⟩
  ·exact .inl (.inl h1)
  ·exact .inl (.inr h1)
  ·exact .inr h1
theorem qgq.idle (h : qgq n0 w W n cs CS S m bs) (hb : But (fun _ => False) w w') : qgq n0 w' W n cs CS S m bs := by
 obtain ⟨xs, h6⟩ := h.ls.row
 exact ⟨h.ls.block (hb.keep W h.ls.cell.2.2 id) (fun g hg => hb.keep g (h6.lt g hg).2 id) (fun g hg => hb.keep g (h.qj1 hg) id), qj h.cr fun g hg => hb.keep g (h.cr.lt g hg).2 id, qj h.br fun g hg => hb.keep g (h.br.lt g hg).2 id, h.le, h.out, h.off⟩
theorem jr.idle (h : jr n0 w W n cs) (hb : But (fun _ => False) w w') : jr n0 w' W n cs := by
 obtain ⟨CS, S, m, bs, hw⟩ := h.b
 exact ⟨h.lo, ⟨CS, S, m, bs, hw.idle hb⟩, fun c hc => (h.each c hc).idle hb, h.apart⟩
theorem jr.below (h : jr n0 w W n cs) (hb : Below w.heap.size w w') : jr n0 w' W n cs := h.idle (But.of_below hb)
theorem jr.up {n' : Nat} (h : jr n0 w W n cs) (hn : n ≤ n') : jr n0 w W n' cs := by
 obtain ⟨CS, S, m, bs, hw⟩ := h.b
 exact ⟨h.lo, ⟨CS, S, m, bs, ⟨hw.ls, hw.cr, hw.br, ⟨xlt hw.le.1 hn, xlt hw.le.2 hn⟩, hw.out, hw.off⟩⟩, h.each, h.apart⟩
end
section
variable {n0 : Nat} {w w' : World} {W n k m : Nat} {cs : List Cst} {c d : Cst} {CS : qji} {S : Value} {bs : List Bs}
theorem jr.ja0 {l : Value} {base q : Nat} {xs : List Value} (h : jr n0 w W n cs) (hw : qgq n0 w W n cs CS S m bs) (hb : But (qgt W S l) w w') (hl : w.ownsRow base 74 2 l q xs)
  (hfresh : ∀ c ∈ cs, ∀ b, c.own b → b < base) (hS' : ∃ S', qbw n0 w' W CS S' (m + 1) ∧ ∀ g, S'.ownBlock = some g → S.ownBlock = some g ∨ w.heap.size ≤ g) : jr n0 w' W (n + 1) cs := by
 obtain ⟨cur, h1, _⟩ := hw.ls.b
 obtain ⟨ys, hy⟩ := hw.ls.row
 obtain ⟨S', hls, hS'⟩ := hS'
 have no : ∀ (b : Nat) (cur : Array Value) (ty : TypeId), w.heap[b]? = some (Obj.cells cur ty (0, 0)) → ty ≠ 74 → ty ≠ 47 → ty ≠ 36 → w'.heap[b]? = w.heap[b]? := fun b cur ty hbb n1 n2 n3 => by
  refine hb.keep b (zx hbb).1 ?_
  rintro (e | e | e)
  ·rw [e, h1] at hbb
   have e2 := xoi hbb
   injection e2 with _ e3
   exact n3 e3.symm
  ·obtain ⟨c', hc'⟩ := jq hy e
   rw [hc'] at hbb
   have e2 := xoi hbb
   injection e2 with _ e3
   exact n2 e3.symm
  ·obtain ⟨c', hc'⟩ := jq hl e
   rw [hc'] at hbb
   have e2 := xoi hbb
   injection e2 with _ e3
   exact n1 e3.symm
 refine ⟨h.lo, ⟨CS, S', m + 1, bs, ⟨hls, qj hw.cr fun g hg => ?_, qj hw.br fun g hg => ?_, ⟨by have := hw.le.1; omega, by have := hw.le.2; omega⟩, hw.out, fun b hbb ho => ?_⟩⟩, fun c hc => (h.each c hc).but hb fun b hcb hbb => ?_, h.apart⟩
 ·obtain ⟨cp, hcp⟩ := jq hw.cr hg
  exact no g cp _ hcp (by decide) (by decide) (by decide)
 ·obtain ⟨cp, hcp⟩ := jq hw.br hg
  exact no g cp _ hcp (by decide) (by decide) (by decide)
 ·have low : b < w.heap.size → ¬ CS.out b → False := fun _ hn => hn ho
  rcases hbb with e | e | e | e
  ·exact hw.off b (.inl e) ho
  ·exact hw.off b (.inr (.inl e)) ho
  ·exact hw.off b (.inr (.inr (.inl e))) ho
  ·rcases hS' b e with e2 | e2
   ·exact hw.off b (.inr (.inr (.inr e2))) ho
   ·rw [hw.out] at ho
    obtain ⟨c, hc, hcb⟩ := ho
    have := ((h.each c hc).lo b hcb).2
    omega
 ·have ho : CS.out b := by rw [hw.out]; exact ⟨c, hc, hcb⟩
  rcases hbb with e | e | e
  ·exact hw.off b (.inl e) ho
  ·exact hw.off b (.inr (.inr (.inr e))) ho
  ·have h2 := hfresh c hc b hcb
   have h3 := (hl.lt b e).1
   omega
theorem qua : ∃ i, Tryz.prog.info? 56 = some i ∧ i.zero = some (.agg #[.pointer none, .pointer none]) ∧ i.size = 2 ∧ i.bytes = 16 := by
 have h : (Tryz.prog.info? 56).map (fun i => (i.zero, i.size, i.bytes)) = some (some (.agg #[.pointer none, .pointer none]), 2, 16) := by kernel_rfl
 obtain ⟨i, h1, h2⟩ := Option.map_eq_some_iff.1 h
 injection h2 with h2 h3
 injection h3 with h3 h4
 exact ⟨i, h1, h2, h3, h4⟩
theorem qgq.grown {w3 : World} {v3 v0 : Value} {o : Obj} {j : Nat} {ty : TypeId} (hw : qgq n0 w W n cs CS S m bs) (hv0 : ∀ g, v0.ownBlock = some g → qns W CS S g ∧ ∃ cur, w.heap[g]? = some (.cells cur ty (0, 0))) (hty : ty = 56 ∨ ty = 9) (hg : (w.alloc o).grownBy w3 v0.ownBlock) :
  (∃ cur, w3.heap[W]? = some (.cells cur 36 (0, 0)) ∧ w.heap[W]? = w3.heap[W]?) ∧ But (fun b => b = W ∨ v0.ownBlock = some b) w (w3.setCell ⟨W, j, none⟩ v3) ∧
   (∀ (b : Nat) (cur : Array Value) (t : TypeId), w.heap[b]? = some (Obj.cells cur t (0, 0)) → t ≠ ty → t ≠ 36 → (w3.setCell ⟨W, j, none⟩ v3).heap[b]? = w.heap[b]?) ∧
   (∀ c ∈ cs, qav n0 w c → qav n0 (w3.setCell ⟨W, j, none⟩ v3) c) := by
 obtain ⟨cur, h1, _⟩ := hw.ls.b
 have hlt := (zx h1).1
 have hneW : some W ≠ v0.ownBlock := fun e => by
  obtain ⟨_, c, hc⟩ := hv0 W e.symm
  rw [h1] at hc
  have e2 := xoi hc
  injection e2 with _ e3
  rcases hty with h | h
  ·rw [h] at e3; exact absurd e3 (by decide)
  ·rw [h] at e3; exact absurd e3 (by decide)
 have hb3 : w3.heap[W]? = some (.cells cur 36 (0, 0)) := (hg.block W (by simp; omega) hneW).trans ((heap_alloc_old w o hlt).trans h1)
 have qa8 : But (fun b => b = W ∨ v0.ownBlock = some b) w (w3.setCell ⟨W, j, none⟩ v3) := But.setCell ⟨by have := hg.size; simp at this; omega, fun b hb hn => (hg.block b (by simp; omega) fun e => hn (.inr e.symm)).trans (heap_alloc_old w o hb), (by rw [hg.os]; rfl), (by rw [hg.output]; rfl)⟩ (.inl rfl) _ _
 refine ⟨⟨cur, hb3, by rw [hb3, h1]⟩, qa8, fun b cur' t hbb n1 n2 => qa8.keep b (zx hbb).1 ?_, fun c hc hcc => hcc.but qa8 fun b hcb hbb => ?_⟩
 ·rintro (e | e)
  ·rw [e, h1] at hbb
   have e2 := xoi hbb
   injection e2 with _ e3
   exact n2 e3.symm
  ·obtain ⟨_, c', hc'⟩ := hv0 b e
   rw [hc'] at hbb
   have e2 := xoi hbb
   injection e2 with _ e3
   exact n1 e3.symm
 ·have ho : CS.out b := by rw [hw.out]; exact ⟨c, hc, hcb⟩
  rcases hbb with e | e
  ·exact hw.off b (.inl e) ho
  ·exact hw.off b (hv0 b e).1 ho
theorem jr.add {w3 : World} {v3 : Value} {o : Obj} (h : jr n0 w W n cs) (hw : qgq n0 w W n cs CS S m bs)
  (hc : qav n0 w c) (hap : ∀ d ∈ cs, Apart d c) (hoff : ∀ b, qns W CS S b ∨ qad w S b → ¬ c.own b) (hg : (w.alloc o).grownBy w3 CS.cs.ownBlock) (hat : ∀ g, v3.ownBlock = some g → CS.cs.ownBlock = some g ∨ w.heap.size ≤ g)
  (hr : w3.ownsRow n0 56 2 v3 (cs.length + 1) (qe2 cs ++ [.pointer (some ⟨c.A.cl, 0, none⟩), .pointer (some ⟨c.B.ml, 0, none⟩)])) :
  w3.cell? ⟨W, 0, none⟩ = some CS.cs ∧ w3.frozen? ⟨W, 0, none⟩ = false ∧ jr n0 (w3.setCell ⟨W, 0, none⟩ v3) W n (cs ++ [c]) ∧ But (fun b => n0 ≤ b) w (w3.setCell ⟨W, 0, none⟩ v3) := by
 obtain ⟨cur, h1, q2, h2, h3, h3b⟩ := hw.ls.b
 obtain ⟨xs, h6⟩ := hw.ls.row
 obtain ⟨⟨cur', hb3, qw1⟩, qa8, no, keep⟩ := hw.grown (w3 := w3) (v3 := v3) (v0 := CS.cs) (o := o) (j := 0) (fun g hg => ⟨.inr (.inl hg), jq hw.cr hg⟩) (.inl rfl) hg
 rw [h1, hb3] at qw1
 obtain rfl : cur = cur' := by
  have e2 := xoi qw1
  injection e2
 have rows : ∀ {v : Value} {q size : Nat} {ty : TypeId} {ys : List Value}, w.ownsRow n0 ty size v q ys → ty ≠ 56 → ty ≠ 36 → (w3.setCell ⟨W, 0, none⟩ v3).ownsRow n0 ty size v q ys := fun {v q size ty ys} hr n1 n2 => qj hr fun g hgg => by
  obtain ⟨c, hc⟩ := jq hr hgg
  exact no g c ty hc n1 n2
 have hn : ∀ b, (b = W ∨ CS.cs.ownBlock = some b) → n0 ≤ b := fun b hb => hb.elim (fun e => e ▸ h.lo) fun e => (hw.cr.lt b e).1
 have qoq : qei (w3.setCell ⟨W, 0, none⟩ v3) S = qei w S := by rw [qaa (rows h6 (by decide) (by decide)), qaa h6]
 have hsz3 : w.heap.size ≤ w3.heap.size := by have := hg.size; simp at this; omega
 have hout : ∀ b, (∃ x ∈ cs ++ [c], x.own b) → CS.out b ∨ c.own b := fun b ⟨x, hx, hxb⟩ => by
  rcases List.mem_append.1 hx with hx | hx
  ·exact .inl (by rw [hw.out]; exact ⟨x, hx, hxb⟩)
  ·rw [List.mem_singleton] at hx; subst hx; exact .inr hxb
 refine ⟨by simp [World.cell?, hb3, h2], by simp [World.frozen?, hb3], ⟨h.lo, ⟨⟨v3, CS.bs, fun b => ∃ x ∈ cs ++ [c], x.own b⟩, S, m, bs, ⟨⟨⟨_, xhs w3 W 0 cur _ _ hb3, by rw [xne (by omega), q2], by rw [xsl ((zx h2).1)], by rw [xne (by omega), h3], by rw [xne (by omega), h3b]⟩, ⟨xs, rows h6 (by decide) (by decide)⟩, fun k l hk => ?_, fun g hgg ho => ?_⟩, ?_, rows hw.br (by decide) (by decide), hw.le, rfl, fun b hbb ho => ?_⟩⟩, fun d hd => ?_, ?_⟩, ⟨qa8.size, fun b hb hnb => qa8.keep b hb fun x => hnb (hn b x), qa8.os, qa8.output⟩⟩
 ·rw [qoq] at hk
  obtain ⟨q, ys, z1, z2⟩ := hw.ls.kept k l hk
  exact ⟨q, ys, qj z1 fun g hgg => by
   obtain ⟨c, hc⟩ := jq z1 hgg
   exact no g c _ hc (by decide) (by decide), z2⟩
 ·have hg' : qad w S g := by unfold qad at hgg ⊢; rw [qoq] at hgg; exact hgg
  rcases hout g ho with h4 | h4
  ·exact hw.ls.out g hg' h4
  ·exact hoff g (.inr hg') h4
 ·show (w3.setCell ⟨W, 0, none⟩ v3).ownsRow n0 56 2 v3 (cs ++ [c]).length (qe2 (cs ++ [c]))
  rw [List.length_append, qpb]
  refine ownsRow_setCell_other hr (fun e => ?_) _
  obtain ⟨c', hc'⟩ := jq hr e
  rw [show (⟨W, 0, none⟩ : Addr).block = W from rfl, hb3] at hc'
  cases hc'
 ·have key : qns W CS S b → False := fun hbb => by
   rcases hout b ho with h4 | h4
   ·exact hw.off b hbb h4
   ·exact hoff b (.inl hbb) h4
  rcases hbb with e | e | e | e
  ·exact key (.inl e)
  ·rcases hat b e with e2 | e2
   ·exact key (.inr (.inl e2))
   ·rcases hout b ho with h4 | h4
    ·rw [hw.out] at h4
     obtain ⟨d, hd, hdb⟩ := h4
     have := ((h.each d hd).lo b hdb).2
     omega
    ·have := (hc.lo b h4).2
     omega
  ·exact key (.inr (.inr (.inl e)))
  ·exact key (.inr (.inr (.inr e)))
 ·rcases List.mem_append.1 hd with hd | hd
  ·exact keep d hd (h.each d hd)
  ·rw [List.mem_singleton] at hd
   subst hd
   refine hc.but qa8 fun b hcb hbb => ?_
   rcases hbb with e | e
   ·exact hoff b (.inl (.inl e)) hcb
   ·exact hoff b (.inl (.inr (.inl e))) hcb
 ·rw [List.pairwise_append]
  exact ⟨h.apart, by simp, fun a ha b hb => by rw [List.mem_singleton] at hb; subst hb; exact hap a ha⟩
theorem jr.told {w3 : World} {v3 : Value} {o : Obj} {b0 : Bs} (h : jr n0 w W n cs) (hw : qgq n0 w W n cs CS S m bs)
  (hg : (w.alloc o).grownBy w3 CS.bs.ownBlock) (hat : ∀ g, v3.ownBlock = some g → CS.bs.ownBlock = some g ∨ w.heap.size ≤ g)
  (hr : w3.ownsRow n0 9 1 v3 (bs.length + 1) (bs.map sv ++ [sv b0])) :
  w3.cell? ⟨W, 1, none⟩ = some CS.bs ∧ w3.frozen? ⟨W, 1, none⟩ = false ∧ jr n0 (w3.setCell ⟨W, 1, none⟩ v3) W (n + 1) cs ∧ But (fun b => n0 ≤ b) w (w3.setCell ⟨W, 1, none⟩ v3) := by
 obtain ⟨cur, h1, q2, h2, h3, h3b⟩ := hw.ls.b
 obtain ⟨xs, h6⟩ := hw.ls.row
 obtain ⟨⟨cur', hb3, qw1⟩, qa8, no, keep⟩ := hw.grown (w3 := w3) (v3 := v3) (v0 := CS.bs) (o := o) (j := 1) (fun g hg => ⟨.inr (.inr (.inl hg)), jq hw.br hg⟩) (.inr rfl) hg
 rw [h1, hb3] at qw1
 obtain rfl : cur = cur' := by
  have e2 := xoi qw1
  injection e2
 have rows : ∀ {v : Value} {q size : Nat} {ty : TypeId} {ys : List Value}, w.ownsRow n0 ty size v q ys → ty ≠ 9 → ty ≠ 36 → (w3.setCell ⟨W, 1, none⟩ v3).ownsRow n0 ty size v q ys := fun {v q size ty ys} hr n1 n2 => qj hr fun g hgg => by
  obtain ⟨c, hc⟩ := jq hr hgg
  exact no g c ty hc n1 n2
 have hn : ∀ b, (b = W ∨ CS.bs.ownBlock = some b) → n0 ≤ b := fun b hb => hb.elim (fun e => e ▸ h.lo) fun e => (hw.br.lt b e).1
 have qoq : qei (w3.setCell ⟨W, 1, none⟩ v3) S = qei w S := by rw [qaa (rows h6 (by decide) (by decide)), qaa h6]
 refine ⟨by simp [World.cell?, hb3, h3], by simp [World.frozen?, hb3], ⟨h.lo, ⟨⟨CS.cs, v3, CS.out⟩, S, m, bs ++ [b0], ⟨⟨⟨_, xhs w3 W 1 cur _ _ hb3, by rw [xne (by omega), q2], by rw [xne (by omega), h2], by rw [xsl ((zx h3).1)], by rw [xne (by omega), h3b]⟩, ⟨xs, rows h6 (by decide) (by decide)⟩, fun k l hk => ?_, fun g hgg ho => ?_⟩, rows hw.cr (by decide) (by decide), ?_, ⟨by have := hw.le.1; omega, by have := hw.le.2; simp; omega⟩, hw.out, fun b hbb ho => ?_⟩⟩, fun d hd => keep d hd (h.each d hd), h.apart⟩, ⟨qa8.size, fun b hb hnb => qa8.keep b hb fun x => hnb (hn b x), qa8.os, qa8.output⟩⟩
 ·rw [qoq] at hk
  obtain ⟨q, ys, z1, z2⟩ := hw.ls.kept k l hk
  exact ⟨q, ys, qj z1 fun g hgg => by
   obtain ⟨c, hc⟩ := jq z1 hgg
   exact no g c _ hc (by decide) (by decide), z2⟩
 ·have hg' : qad w S g := by unfold qad at hgg ⊢; rw [qoq] at hgg; exact hgg
  exact hw.ls.out g hg' ho
 ·show (w3.setCell ⟨W, 1, none⟩ v3).ownsRow n0 9 1 v3 (bs ++ [b0]).length ((bs ++ [b0]).map sv)
  rw [List.length_append, List.map_append]
  refine ownsRow_setCell_other hr (fun e => ?_) _
  obtain ⟨c', hc'⟩ := jq hr e
  rw [show (⟨W, 1, none⟩ : Addr).block = W from rfl, hb3] at hc'
  have e2 := xoi hc'
  injection e2 with _ e3
  exact absurd e3 (by decide)
 ·rcases hbb with e | e | e | e
  ·exact hw.off b (.inl e) ho
  ·exact hw.off b (.inr (.inl e)) ho
  ·rcases hat b e with e2 | e2
   ·exact hw.off b (.inr (.inr (.inl e2))) ho
   ·have ho2 : CS.out b := ho
    rw [hw.out] at ho2
    obtain ⟨d, hd, hdb⟩ := ho2
    have := ((h.each d hd).lo b hdb).2
    omega
  ·exact hw.off b (.inr (.inr (.inr e))) ho
end
section
variable {w : World}
def q1y (w : World) : World := (w.alloc (.map #[] 0)).alloc (.cells #[.map (some w.heap.size)] 142)
theorem qx2 : Calls Tryz.prog 39 #[] w fun e w' => e = .returned (.pointer (some ⟨w.heap.size + 1, 0, none⟩)) ∧ w' = q1y w := by
 have hmm := @run_makeMap Tryz.prog
 go_enter Tryz.func39, Tryz.ntmps39
 go_wp2
 go_ret
 exact ⟨rfl, rfl⟩
theorem heap_alloc_new' (w : World) (o : Obj) {n : Nat} (h : n = w.heap.size) : (w.alloc o).heap[n]? = some o := by subst h; exact heap_alloc_new w o
theorem qwn {w' : World} {mb : Nat} (h : w'.heap[mb]? = some (.map #[] 0)) : j4 w' mb [] := by
 have h0 : (({ w' with heap := #[] } : World).alloc (.map #[] 0)).ownsMap Tryz.prog 9 Rv 0 0 (DM []) := World.ownsMap_made _ _ _ _
 obtain ⟨es, ck, h1, F⟩ := h0
 have h2 : (({ w' with heap := #[] } : World).alloc (.map #[] 0)).heap[0]? = some (.map #[] 0) := rfl
 rw [h2] at h1
 cases h1
 exact ⟨#[], 0, h, F⟩
theorem q5u (h : Int) (hh : h < 2 ∨ 4 < h) (hh2 : -9223372036854775808 ≤ h ∧ h ≤ 9223372036854775807) : Calls Tryz.prog 17 #[.int .i64 h] w fun e w' => e = .returned (.tuple #[.pointer none, .int .i64 1]) ∧ w' = w := by
 rcases Int.lt_or_le h 2 with h2 | h2
 ·have g1 : decide (h < 2) = true := by simp; omega
  go_enter Tryz.func17, Tryz.ntmps17
  go_wp2
  go_ret2
  exact ⟨rfl, rfl⟩
 ·have g1 : decide (h < 2) = false := by simp; omega
  have g2 : decide (4 < h) = true := by simp; omega
  go_enter Tryz.func17, Tryz.ntmps17
  go_wp2
  go_ret2
  exact ⟨rfl, rfl⟩
end
theorem quv : ∃ i, Tryz.prog.info? 104 = some i ∧ i.zero = some (.agg #[.int .i64 0, .slice none 0 0, .pointer none]) ∧ i.size = 3 ∧ i.bytes = 40 := by
 have h : (Tryz.prog.info? 104).map (fun i => (i.zero, i.size, i.bytes)) = some (some (.agg #[.int .i64 0, .slice none 0 0, .pointer none]), 3, 40) := by kernel_rfl
 obtain ⟨i, h1, h2⟩ := Option.map_eq_some_iff.1 h
 injection h2 with h2 h3
 injection h3 with h3 h4
 exact ⟨i, h1, h2, h3, h4⟩
def qgb (h : Nat) : Nat → List Value
 |0 => []
 |j + 1 => qgb h j ++ [.int .i64 ((j : Int).tmod (h : Int)), .slice none 0 0, .pointer none]
theorem qmi (h : Nat) : ∀ j i, i < j → (qgb h j)[i * 3 + 1]? = some (.slice none 0 0) ∧ (qgb h j)[i * 3 + 2]? = some (.pointer none) ∧ (qgb h j)[i * 3]? = some (.int .i64 ((i : Int).tmod (h : Int)))
 |0, i, hi => by omega
 |j + 1, i, hi => by
  have hl : ∀ j, (qgb h j).length = j * 3 := fun j => by
   induction j with
   |zero => rfl
   |succ j ih => simp only [qgb, List.length_append, ih, List.length_cons, List.length_nil]; omega
  unfold qgb
  by_cases e : i = j
  ·subst e
   rw [List.getElem?_append_right (by rw [hl]; omega), List.getElem?_append_right (by rw [hl]; omega), List.getElem?_append_right (by rw [hl]; omega), hl, show i * 3 + 1 - i * 3 = 1 by omega, show i * 3 + 2 - i * 3 = 2 by omega, show i * 3 - i * 3 = 0 by omega]
   exact ⟨rfl, rfl, rfl⟩
  ·rw [List.getElem?_append_left (by rw [hl]; omega), List.getElem?_append_left (by rw [hl]; omega), List.getElem?_append_left (by rw [hl]; omega)]
   exact qmi h j i (by omega)
theorem cells3 (w : World) (a b c : Value) (ty : TypeId) : ∀ (j : Nat) (u : Value), [a, b, c][j]? = some u → (w.alloc (.cells #[a, b, c] ty)).cell? ((⟨w.heap.size, 0, none⟩ : Addr).add j) = some u := fun j u hj => by
 rw [Addr.add_lit, Nat.zero_add]
 match j, hj with
 |0, hj => simp at hj; subst hj; go_simp
 |1, hj => simp at hj; subst hj; go_simp
 |2, hj => simp at hj; subst hj; go_simp
structure qnw (W w : World) (h ml j : Nat) (S : Value) : Prop where
 b : w.heap[ml]? = some (.cells #[.int .i64 h, S, .slice none 0 0, .int .i64 0, .int .i64 0] 101 (0, 0))
 row : w.ownsRow (ml + 1) 104 3 S j (qgb h j)
 lo : W.heap.size ≤ ml
 below : Below W.heap.size W w
section
variable {W w w1 w3 : World} {h ml j : Nat} {S : Value}
theorem qnw.cell (H : qnw W w h ml j S) : w.cell? ⟨ml, 1, none⟩ = some S ∧ w.frozen? ⟨ml, 1, none⟩ = false ∧ ml < w.heap.size := by
 have h1 := H.b
 exact ⟨by simp [World.cell?, h1], by simp [World.frozen?, h1], (zx h1).1⟩
theorem qnw.app {g cap : Nat} {xs : List Value} (H : qnw W w h ml j S) (o : Obj) (hw : w1 = (w.alloc o).drew) (hg : w1.grownBy w3 S.ownBlock) (hr : w3.ownsRow (ml + 1) 104 3 (.slice (some ⟨g, 0, none⟩) (j + 1) cap) (j + 1) xs) :
  w3.cell? ⟨ml, 1, none⟩ = some S ∧ w3.frozen? ⟨ml, 1, none⟩ = false ∧ (xs = qgb h (j + 1) → qnw W (w3.setCell ⟨ml, 1, none⟩ (.slice (some ⟨g, 0, none⟩) (j + 1) cap)) h ml (j + 1) (.slice (some ⟨g, 0, none⟩) (j + 1) cap)) := by
 subst hw
 have h1 := H.b
 have hlt := H.cell.2.2
 have hne : some ml ≠ S.ownBlock := fun e => by have := (H.row.lt ml e.symm).1; omega
 have hb3 : w3.heap[ml]? = some (.cells #[.int .i64 h, S, .slice none 0 0, .int .i64 0, .int .i64 0] 101 (0, 0)) := (hg.block ml (by simp; omega) hne).trans ((heap_alloc_old w o hlt).trans h1)
 refine ⟨by simp [World.cell?, hb3], by simp [World.frozen?, hb3], fun e => ?_⟩
 subst e
 have hbel : Below W.heap.size W w3 := (show Below W.heap.size W (w.alloc o).drew from (H.below.alloc H.below.size o).drew).grown hg (by have := H.below.size; simp; omega) fun k hk => by have := (H.row.lt k hk).1; have := H.lo; omega
 refine ⟨(xhs w3 ml 1 _ _ _ hb3).trans rfl, ?_, H.lo, hbel.setCell H.lo _⟩
 ·refine ownsRow_setCell_other hr (fun e => ?_) _
  have := (hr.lt ml e).1
  omega
def ql9 (h : Nat) : St := ⟨h, fun i => i % h, fun _ => [], fun _ => none, [], 0, 0⟩
def qvn (h : Nat) (w : World) (e : Ending) (w' : World) : Prop := ∃ B : MA, e = .returned (.tuple #[.pointer (some ⟨B.ml, 0, none⟩), .bool true]) ∧ MAt w' (fun b => w.heap.size ≤ b) B (ql9 h) ∧ Below w.heap.size w w'
theorem qpo (i h : Nat) : ((i : Int).tmod (h : Int)) = ((i % h : Nat) : Int) := by
 rw [Int.tmod_eq_emod_of_nonneg (Int.natCast_nonneg i)]; rfl
theorem qnw.mat (H : qnw W w h ml 4 S) : ∃ B : MA, B.ml = ml ∧ MAt w (fun b => W.heap.size ≤ b) B (ql9 h) := by
 have h1 := H.b
 rcases H.row.2 with ⟨_, hz⟩ | ⟨g, cap, cur, rfl, hg, hb, hc, hm, hs, ht⟩
 ·cases hz
 ·refine ⟨⟨ml, g, fun _ => .slice none 0 0, fun _ => none, fun _ => .slice none 0 0, fun _ => .slice none 0 0, .slice none 0 0, cap⟩, rfl, ⟨⟨H.lo, h1⟩, ⟨by have := H.lo; show W.heap.size ≤ g; omega, cur, hb, fun i hi => ?_⟩, fun i hi => ⟨⟨World.ownsRow_nil _ _ _ _, qcf.nil _⟩, fun b hb => (by cases hb)⟩, fun i hi => ⟨rfl, rfl⟩, fun i j g hi hj h => (by cases h), fun i j g hi hj h => (by cases h), ⟨rfl, rfl⟩⟩⟩
  obtain ⟨g1, g2, g3⟩ := qmi h 4 i hi
  rw [← ht] at g1 g2 g3
  rw [List.getElem?_take_of_lt (by omega)] at g1 g2 g3
  rw [qpo] at g3
  exact ⟨by rw [← Array.getElem?_toList]; exact g3, by rw [← Array.getElem?_toList]; exact g1, by rw [← Array.getElem?_toList]; exact g2⟩
theorem q2g (h : Int) (hh : h < 2 ∨ 4 < h) (hh2 : -9223372036854775808 ≤ h ∧ h ≤ 9223372036854775807) : Calls Tryz.prog 22 #[.int .i64 h] w fun e w' => e = .returned (.tuple #[.pointer none, .bool false]) ∧ w' = w := by
 rcases Int.lt_or_le h 2 with h2 | h2
 ·have g1 : decide (h < 2) = true := by simp; omega
  go_enter Tryz.func22, Tryz.ntmps22
  go_wp2
  go_ret2
  exact ⟨rfl, rfl⟩
 ·have g1 : decide (h < 2) = false := by simp; omega
  have g2 : decide (4 < h) = true := by simp; omega
  go_enter Tryz.func22, Tryz.ntmps22
  go_wp2
  go_ret2
  exact ⟨rfl, rfl⟩
theorem qy4 (h : Nat) (h2 : 2 ≤ h) (h4 : h ≤ 4) : Calls Tryz.prog 22 #[.int .i64 h] w (qvn h w) := by
 have g1 : decide ((h : Int) < 2) = false := by simp; omega
 have g2 : decide ((4 : Int) < h) = false := by simp; omega
 have hh0 : ¬ h = 0 := by omega
 obtain ⟨si, s1, s2, s3, s4⟩ := quv
 have HS := Lib.hid (And.intro s1 (And.intro s2 (And.intro s3 s4)))
 clear s1 s2 s3 s4
 go_enter Tryz.func22, Tryz.ntmps22
 go_wp2
 go_loopw [5] (fun i wr => ∃ j : Nat, j ≤ 4 ∧ i = .int .i64 j ∧ Hid (∃ S, qnw w wr h w.heap.size j S)) (fun i _ => 4 - (intOf i).toNat)
 case atStart =>
  exact ⟨0, by omega, rfl, Lib.hid ⟨.slice none 0 0, heap_alloc_new _ _, World.ownsRow_nil _ _ _ _, jy _, (jo _ _).alloc (jy _) _⟩⟩
 case round =>
  obtain ⟨j, hj, rfl, HN⟩ := hrel
  by_cases hj4 : j < 4
  ·obtain ⟨S, hN⟩ := HN.out
   have hN1 := Lib.hid hN
   obtain ⟨c1, f1, l1⟩ := hN1.out.cell
   clear hN
   go_wp2
   go_region_law (first | (refine step_append_lies _ rfl (.tmp 23) (.tmp 28) 98 rfl (w.heap.size + 1) 104 si _ 3 40 Tryz.underlying98 HS.out.1 HS.out.2.1 HS.out.2.2.1 HS.out.2.2.2 rfl (by decide) S j (qgb h j) rfl (hN1.out.row.alloc _) ⟨wr.heap.size, 0, none⟩ 1 1 [.int .i64 ((j : Int).tmod (h : Int)), .slice none 0 0, .pointer none] rfl rfl (cells3 wr _ _ _ _) (by intro u hu; simp at hu; rcases hu with rfl | rfl | rfl <;> rfl) (by decide) (by unfold maxLen; omega) (by omega) (by simp; omega) _ rfl ?_; intro g cap w3 hrow3 hg3 hgg3 hlt3; have H3 := Lib.hid (hN1.out.app _ rfl hg3 hrow3); obtain ⟨d3, e3, _⟩ := H3.out; clear hrow3 hg3 hgg3 hlt3))
   all_goals
    go_wp2
    go_roundw
    case rel => exact ⟨j + 1, by omega, rfl, Lib.hid ⟨_, H3.out.2.2 rfl⟩⟩
    case measure => simp [intOf]; omega
  ·obtain rfl : j = 4 := by omega
   obtain ⟨S, hN⟩ := HN.out
   have hN1 := Lib.hid hN
   clear hN
   go_wp2
   go_ret2
   obtain ⟨B, hB, q2⟩ := hN1.out.mat
   exact ⟨B, by rw [hB]; rfl, q2, hN1.out.below⟩
end
structure NewAt (h : Nat) (W w : World) (cl j : Nat) (db mb : Nat → Nat) : Prop where
 b : ∃ cur, w.heap[cl]? = some (.cells cur 83 (0, 0)) ∧ cur.size = 16 ∧ (∀ i, i < j → cur[1 + i * 3]? = some (.int .i64 ((i : Int).tmod (h : Int))) ∧ cur[1 + i * 3 + 1]? = some (.pointer (some ⟨db i, 0, none⟩)) ∧ cur[1 + i * 3 + 2]? = some (.pointer none)) ∧ cur[0]? = some (.int .i64 h) ∧ cur[13]? = some (.map (some W.heap.size)) ∧ cur[14]? = some (.int .i64 0) ∧ cur[15]? = some (.int .i64 0)
 sm : w.heap[W.heap.size]? = some (.map #[] 0) ∧ W.heap.size < cl
 d : ∀ i, i < j → w.heap[db i]? = some (.cells #[.map (some (mb i))] 142 (0, 0)) ∧ w.heap[mb i]? = some (.map #[] 0) ∧ cl < db i ∧ cl < mb i
 ne : ∀ i i', i < j → i' < j → mb i = mb i' → i = i'
 cl : W.heap.size ≤ cl
 below : Below W.heap.size W w
theorem NewAt.cells {hh : Nat} {W w : World} {cl j : Nat} {db mb : Nat → Nat} (h : NewAt hh W w cl j db mb) {k : Nat} (hk : k < 16) : (∃ v, w.cell? ⟨cl, k, none⟩ = some v) ∧ w.frozen? ⟨cl, k, none⟩ = false := by
 obtain ⟨cur, h1, h2, _⟩ := h.b
 exact ⟨⟨cur[k]'(by omega), by simp [World.cell?, h1, show k < cur.size by omega]⟩, by simp [World.frozen?, h1]⟩
theorem NewAt.lt {hh : Nat} {W w : World} {cl j : Nat} {db mb : Nat → Nat} (h : NewAt hh W w cl j db mb) : cl < w.heap.size := by
 obtain ⟨cur, h1, _⟩ := h.b
 exact (zx h1).1
theorem NewAt.made {hh : Nat} {W w w' : World} {cl j : Nat} {db mb : Nat → Nat} (h : NewAt hh W w cl j db mb) (e : w' = q1y (w.drewN 1)) :
  NewAt hh W w' cl j db mb ∧ w'.heap[w.heap.size + 1]? = some (.cells #[.map (some w.heap.size)] 142 (0, 0)) ∧ w'.heap[w.heap.size]? = some (.map #[] 0) ∧ (∀ i, i < j → mb i < w.heap.size) ∧ cl < w.heap.size ∧ w'.heap.size = w.heap.size + 2 := by
 subst e
 have hz : (q1y (w.drewN 1)).heap = (w.heap.push (.map #[] 0)).push (.cells #[.map (some w.heap.size)] 142 (0, 0)) := rfl
 have old : ∀ b, b < w.heap.size → (q1y (w.drewN 1)).heap[b]? = w.heap[b]? := fun b hb => by
  rw [hz, Array.getElem?_push, if_neg (by simp; omega), Array.getElem?_push, if_neg (by omega)]
 obtain ⟨cur, h1, h2, h3⟩ := h.b
 refine ⟨⟨⟨cur, (old _ h.lt).trans h1, h2, h3⟩, ⟨(old _ (zx h.sm.1).1).trans h.sm.1, h.sm.2⟩, fun i hi => ?_, h.ne, h.cl, ?_⟩, ?_, ?_, fun i hi => ?_, h.lt, ?_⟩
 ·obtain ⟨h4, h5, h6⟩ := h.d i hi
  exact ⟨(old _ (zx h4).1).trans h4, (old _ (zx h5).1).trans h5, h6⟩
 ·exact ⟨h.below.os, h.below.tape, h.below.output, by rw [hz]; have := h.below.size; simp; omega, fun k hk => (old k (xll hk h.below.size)).trans (h.below.block k hk)⟩
 ·rw [hz, Array.getElem?_push, if_pos (by simp)]
 ·rw [hz, Array.getElem?_push, if_neg (by simp), Array.getElem?_push, if_pos rfl]
 ·exact (zx (h.d i hi).2.1).1
 ·rw [hz]; simp
theorem NewAt.stored {hh : Nat} {W w w' : World} {cl j : Nat} {db mb : Nat → Nat} {m : Nat} (h : NewAt hh W w cl j db mb) (hj : j < 4)
  (hd : w.heap[m + 1]? = some (.cells #[.map (some m)] 142 (0, 0))) (hm : w.heap[m]? = some (.map #[] 0)) (hlt : ∀ i, i < j → mb i < m) (hcl : cl < m)
  (e : w' = ((w.setCell ⟨cl, 1 + j * 3, none⟩ (.int .i64 ((j : Int).tmod (hh : Int)))).setCell ⟨cl, 1 + j * 3 + 1, none⟩ (.pointer (some ⟨m + 1, 0, none⟩))).setCell ⟨cl, 1 + j * 3 + 2, none⟩ (.pointer none)) : NewAt hh W w' cl (j + 1) (qo db j (m + 1)) (qo mb j m) := by
 subst e
 obtain ⟨cur, h1, h2, h3⟩ := h.b
 have s1 := xhs w cl (1 + j * 3) cur _ (.int .i64 ((j : Int).tmod (hh : Int))) h1
 have s2 := xhs _ cl (1 + j * 3 + 1) _ _ (.pointer (some ⟨m + 1, 0, none⟩)) s1
 have s3 := xhs _ cl (1 + j * 3 + 2) _ _ (.pointer none) s2
 have ho : ∀ b, b ≠ cl → (((w.setCell ⟨cl, 1 + j * 3, none⟩ (.int .i64 ((j : Int).tmod (hh : Int)))).setCell ⟨cl, 1 + j * 3 + 1, none⟩ (.pointer (some ⟨m + 1, 0, none⟩))).setCell ⟨cl, 1 + j * 3 + 2, none⟩ (.pointer none)).heap[b]? = w.heap[b]? := fun b hb => by
  rw [xho _ _ _ _ hb, xho _ _ _ _ hb, xho _ _ _ _ hb]
 obtain ⟨h3, p0, p13, p14, p15⟩ := h3
 refine ⟨⟨_, s3, by simp [h2], fun i hi => ?_, ?_, ?_, ?_, ?_⟩, ⟨(ho _ (by have := h.sm.2; omega)).trans h.sm.1, h.sm.2⟩, fun i hi => ?_, fun i i' hi hi' he => ?_, h.cl, ((h.below.setCell h.cl _).setCell h.cl _).setCell h.cl _⟩
 ·unfold qo
  by_cases e : i = j
  ·subst e
   rw [if_pos rfl]
   refine ⟨?_, ?_, ?_⟩
   ·rw [xne (by omega), xne (by omega), xsl (by omega)]
   ·rw [xne (by omega), xsl (by simp; omega)]
   ·rw [xsl (by simp; omega)]
  ·obtain ⟨h4, h5, h6⟩ := h3 i (by omega)
   rw [if_neg e]
   refine ⟨?_, ?_, ?_⟩
   ·rw [xne (by omega), xne (by omega), xne (by omega), h4]
   ·rw [xne (by omega), xne (by omega), xne (by omega), h5]
   ·rw [xne (by omega), xne (by omega), xne (by omega), h6]
 ·rw [xne (by omega), xne (by omega), xne (by omega), p0]
 ·rw [xne (by omega), xne (by omega), xne (by omega), p13]
 ·rw [xne (by omega), xne (by omega), xne (by omega), p14]
 ·rw [xne (by omega), xne (by omega), xne (by omega), p15]
 ·unfold qo
  by_cases e : i = j
  ·rw [if_pos e, if_pos e]
   exact ⟨(ho _ (by omega)).trans hd, (ho _ (by omega)).trans hm, by omega, hcl⟩
  ·rw [if_neg e, if_neg e]
   obtain ⟨h4, h5, h6, h7⟩ := h.d i (by omega)
   exact ⟨(ho _ (by omega)).trans h4, (ho _ (by omega)).trans h5, h6, h7⟩
 ·unfold qo at he
  by_cases e1 : i = j
  ·by_cases e2 : i' = j
   ·omega
   ·rw [if_pos e1, if_neg e2] at he
    have := hlt i' (by omega)
    omega
  ·by_cases e2 : i' = j
   ·rw [if_neg e1, if_pos e2] at he
    have := hlt i (by omega)
    omega
   ·rw [if_neg e1, if_neg e2] at he
    exact h.ne i i' (by omega) (by omega) he
theorem NewAt.pat {h : Nat} {W w : World} {cl : Nat} {db mb : Nat → Nat} (H : NewAt h W w cl 4 db mb) : PAt w (fun b => W.heap.size ≤ b) ⟨cl, db, mb, fun _ => none, fun _ => .slice none 0 0, fun _ => .slice none 0 0, fun _ => ⟨#[]⟩, W.heap.size⟩ (ql9 h) := by
 obtain ⟨cur, h1, h2, h3, p0, p13, p14, p15⟩ := H.b
 have hcl := H.sm.2
 have hcur : cur = zy ⟨cl, db, mb, fun _ => none, fun _ => .slice none 0 0, fun _ => .slice none 0 0, fun _ => ⟨#[]⟩, W.heap.size⟩ (ql9 h) := by
  obtain ⟨a0, a1, a2⟩ := h3 0 (by decide)
  obtain ⟨b0, b1, b2⟩ := h3 1 (by decide)
  obtain ⟨c0, c1, c2⟩ := h3 2 (by decide)
  obtain ⟨d0, d1, d2⟩ := h3 3 (by decide)
  rw [qpo] at a0 b0 c0 d0
  refine Array.ext_getElem? fun i => ?_
  by_cases hi : i < 16
  ·match i, hi with
   |0, _ => exact p0
   |1, _ => exact a0
   |2, _ => exact a1
   |3, _ => exact a2
   |4, _ => exact b0
   |5, _ => exact b1
   |6, _ => exact b2
   |7, _ => exact c0
   |8, _ => exact c1
   |9, _ => exact c2
   |10, _ => exact d0
   |11, _ => exact d1
   |12, _ => exact d2
   |13, _ => exact p13
   |14, _ => exact p14
   |15, _ => exact p15
   |i + 16, hi => exact absurd hi (by omega)
  ·rw [Array.getElem?_eq_none (by omega), Array.getElem?_eq_none (by show 16 ≤ i; omega)]
 subst hcur
 refine ⟨⟨H.cl, h1⟩, fun i hi => ?_, fun i hi => ?_, H.ne, fun i hi => ⟨rfl, rfl⟩, fun i j g hi hj e => (by cases e), fun i j g hi hj e => (by cases e), ⟨rfl, jy _, H.sm.1⟩, fun i hi => ?_⟩
 ·obtain ⟨q1, q2, q3, q4⟩ := H.d i hi
  exact ⟨by show W.heap.size ≤ db i; omega, q1⟩
 ·obtain ⟨q1, q2, q3, q4⟩ := H.d i hi
  exact ⟨by show W.heap.size ≤ mb i; omega, qwn q2⟩
 ·obtain ⟨q1, q2, q3, q4⟩ := H.d i hi
  show mb i ≠ W.heap.size
  omega
def q0h (h : Nat) (w : World) (e : Ending) (w' : World) : Prop := ∃ A : PA, e = .returned (.tuple #[.pointer (some ⟨A.cl, 0, none⟩), .int .i64 0]) ∧ PAt w' (fun b => w.heap.size ≤ b) A (ql9 h) ∧ Below w.heap.size w w'
section
variable {w : World}
theorem qyx (h : Nat) (h2 : 2 ≤ h) (h4 : h ≤ 4) : Calls Tryz.prog 17 #[.int .i64 h] w (q0h h w) := by
 have hmm := @run_makeMap Tryz.prog
 have g1 : decide ((h : Int) < 2) = false := by simp; omega
 have g2 : decide ((4 : Int) < h) = false := by simp; omega
 go_enter Tryz.func17, Tryz.ntmps17
 go_wp2
 go_loopw [16] (fun i wr => ∃ j : Nat, j ≤ 4 ∧ i = .int .i64 j ∧ Hid (∃ db mb, NewAt h w wr (w.heap.size + 1) j db mb)) (fun i _ => 4 - (intOf i).toNat)
 case atStart =>
  refine ⟨0, by omega, rfl, Lib.hid ⟨fun _ => 0, fun _ => 0, ⟨_, heap_alloc_new' _ _ (by simp), ?_, fun i hi => (by omega), rfl, rfl, rfl, rfl⟩, ⟨?_, by omega⟩, fun i hi => by omega, fun i _ hi => by omega, by omega, ((jo _ _).alloc (jy _) _).alloc (by simp) _⟩⟩
  ·rfl
  ·rw [heap_alloc_old _ _ (by simp)]; exact heap_alloc_new _ _
 case round =>
  obtain ⟨j, hj, rfl, HN⟩ := hrel
  by_cases hj4 : j < 4
  ·obtain ⟨db, mb, hN⟩ := HN.out
   have hN1 := Lib.hid hN
   clear hN
   go_wp2
   go_region_with (first | (go_at_call 39; refine qx2.mono ?_; rintro e w2 ⟨rfl, h2⟩; have H2 := Lib.hid (hN1.out.made h2); obtain ⟨⟨v0, c0⟩, f0⟩ := H2.out.1.cells (k := 1 + j * 3) (by omega); obtain ⟨⟨v1, c1⟩, f1⟩ := H2.out.1.cells (k := 1 + j * 3 + 1) (by omega); obtain ⟨⟨v2, c2⟩, f2⟩ := H2.out.1.cells (k := 1 + j * 3 + 2) (by omega); clear h2))
   all_goals
    go_wp2
    go_roundw
    case rel => exact ⟨j + 1, by omega, rfl, Lib.hid ⟨_, _, H2.out.1.stored hj4 H2.out.2.1 H2.out.2.2.1 H2.out.2.2.2.1 H2.out.2.2.2.2.1 rfl⟩⟩
    case measure => simp [intOf]; omega
  ·obtain rfl : j = 4 := by omega
   obtain ⟨db, mb, hN⟩ := HN.out
   have hN1 := Lib.hid hN
   clear hN
   go_wp2
   go_ret2
   exact ⟨_, rfl, hN1.out.pat, hN1.out.below⟩
end
theorem q0u : ∃ i, Tryz.prog.info? 87 = some i ∧ i.zero = some (.agg #[.string ⟨#[]⟩, .string ⟨#[]⟩, .bool false]) ∧ i.size = 3 ∧ i.bytes = 40 := by
 have h : (Tryz.prog.info? 87).map (fun i => (i.zero, i.size, i.bytes)) = some (some (.agg #[.string ⟨#[]⟩, .string ⟨#[]⟩, .bool false]), 3, 40) := by kernel_rfl
 obtain ⟨i, h1, h2⟩ := Option.map_eq_some_iff.1 h
 injection h2 with h2 h3
 injection h3 with h3 h4
 exact ⟨i, h1, h2, h3, h4⟩
def qde (k v : ByteArray) (g : Bool) : Chg := ⟨k.data.toList, v.data.toList, g⟩
def csL (L : KV) (cs : List Chg) (k v : ByteArray) (g : Bool) : List Chg := if xu L k.data.toList v.data.toList g = 0 then cs ++ [qde k v g] else cs
structure MX (x n : Nat) (pv cv : Value) (ld : ByteArray) (m : Mv) (w : World) : Prop where
 b : w.heap[x]? = some (.cells (j3 n pv cv ld m) 135 (0, 0))
 r : qjd w cv m.cs
section
variable {w w' : World} {cl db mb x n : Nat} {L : KV} {pv cv : Value} {ld : ByteArray} {m : Mv}
theorem qbm {m : Nat} {L : KV} {b : Nat} {cur : Array Value} {ty : TypeId} (hm : j4 w m L) (hb : w.heap[b]? = some (.cells cur ty (0, 0))) : b ≠ m := fun e => by
 obtain ⟨es, ck, h, _⟩ := hm
 rw [e, h] at hb
 cases hb
theorem MX.lt (h : MX x n pv cv ld m w) : x < w.heap.size := (zx h.b).1
theorem MX.below (h : MX x n pv cv ld m w) (hb : Below w.heap.size w w') : MX x n pv cv ld m w' := ⟨(hb.block _ h.lt).trans h.b, h.r.block fun g hg => hb.block g (World.ownsRow.lt h.r g hg).2⟩
theorem MX.but (h : MX x n pv cv ld m w) (hm : j4 w mb L) (hb : But (· = mb) w w') : MX x n pv cv ld m w' := ⟨(hb.keep _ h.lt (qbm hm h.b)).trans h.b, h.r.block fun g hg => hb.keep g (World.ownsRow.lt h.r g hg).2 (by
 obtain ⟨c, hc⟩ := jq h.r hg
 exact qbm hm hc)⟩
theorem MX.cells (h : MX x n pv cv ld m w) : w.cell? ⟨x, 4, none⟩ = some cv ∧ w.cell? ⟨x, 12, none⟩ = some (.bool m.sealed) ∧ w.frozen? ⟨x, 4, none⟩ = false := ⟨by simp [World.cell?, h.b, j3], by simp [World.cell?, h.b, j3], by simp [World.frozen?, h.b]⟩
def ChM (cb cl n db mb x : Nat) (pv cv : Value) (ld : ByteArray) (m : Mv) (L : KV) (k v : ByteArray) (g : Bool) (w : World) : Prop := ChW cb cl n db mb (some ⟨x, 0, none⟩) L k v g w ∧ MX x n pv cv ld m w
theorem ql2 {W : World} {k v : ByteArray} {g : Bool} {w1 : World} {A B : Prop} (h : A ∧ B ∧ Hid (ChM W.heap.size cl n db mb x pv cv ld m L k v g w1 ∧ Below W.heap.size W w1)) (hk : k.size ≤ maxLen) :
  Calls Tryz.prog 42 #[.pointer (some ⟨db, 0, none⟩), .string k] w1 fun e w' => (e = .returned (.tuple #[sv ((jd L k.data.toList).getD []), .bool (jd L k.data.toList).isSome])) ∧ ChM W.heap.size cl n db mb x pv cv ld m L k v g w' ∧ Below W.heap.size W w' :=
 (qww h.2.2.out.1.1.m h.2.2.out.1.1.l k hk).mono fun e w' ⟨h1, h2⟩ => ⟨h1, ⟨h.2.2.out.1.1.below h2, h.2.2.out.1.2.below h2⟩, h.2.2.out.2.trans (h2.mono h.2.2.out.2.size)⟩
def ChB (mb x : Nat) (cv : Value) (b : Nat) : Prop := b = mb ∨ b = x ∨ cv.ownBlock = some b
def qit (w : World) (mb x n : Nat) (pv cv : Value) (ld : ByteArray) (m : Mv) (L' : KV) (cs' : List Chg) (c : Int) (e : Ending) (w' : World) : Prop :=
 e = .returned (.int .i64 c) ∧ j4 w' mb L' ∧ (∃ cv', MX x n pv cv' ld { m with cs := cs' } w' ∧ ∀ b, cv'.ownBlock = some b → cv.ownBlock = some b ∨ w.heap.size ≤ b) ∧ But (ChB mb x cv) w w'
theorem qit.idle {c : Int} (h : MX x n pv cv ld m w') (hm : j4 w' mb L) (hb : Below w.heap.size w w') : qit w mb x n pv cv ld m L m.cs c (.returned (.int .i64 c)) w' := ⟨rfl, hm, ⟨cv, h, fun _ h => .inl h⟩, But.of_below hb⟩
theorem qk9 (k v : ByteArray) (g : Bool) (n : Nat) (hn : n < 4) (hk : qaz k.data.toList = true) (hkn : ji k.data.toList = n) (hks : k.size ≤ maxLen) (hL : L.length ≤ 12) (hp : qbj w cl n db mb (some ⟨x, 0, none⟩) L) (hx : MX x n pv cv ld m w) (hs : m.sealed = true) :
  Calls Tryz.prog 40 #[.pointer (some ⟨cl, 0, none⟩), .agg #[.string k, .string v, .bool g]] w (q4q (if 12 < v.data.toList.length then 3 else 5) w) := by
 have hn3 : ((n : Int) < 4) := by omega
 have HX := Lib.hid hx
 have HS := Lib.hid hs
 obtain ⟨cd, hcd⟩ : ∃ cd : Int, (if 12 < v.data.toList.length then (3 : Int) else 5) = cd := ⟨_, rfl⟩
 rw [hcd]
 have HCD := Lib.hid hcd
 clear hx hs hcd
 go_enter Tryz.func40, Tryz.ntmps40
 go_wp2_with (go_at_call 41; refine (qnb _ _ hk).mono ?_; rintro e w1 ⟨rfl, hb⟩; rw [hkn])
 obtain ⟨hc1, hb0⟩ := ChW.of hp hb
 clear hb hp
 have HB0 := Lib.hid hb0
 have HC1 := Lib.hid (And.intro hc1 (HX.out.below hb0))
 obtain ⟨c0, c1, c2, pd, pv', pm, pl⟩ := id hc1
 clear hb0 hc1 pl
 go_region_held3 (fun w' => w'.cell? ⟨cl, 1 + n * 3 + 1, none⟩ = some (.pointer (some ⟨db, 0, none⟩)) ∧ w'.cell? ⟨w.heap.size, 0, none⟩ = some (.string k) ∧ Hid (ChM w.heap.size cl n db mb x pv cv ld m L k v g w' ∧ Below w.heap.size w w'))
  (first | exact ⟨pd, c0, Lib.hid ⟨⟨HC1.out.1.drew, HC1.out.2.below (Below.drew (jo _ _))⟩, HB0.out.drew⟩⟩ | exact ⟨(HC2.out.1).1.d, (HC2.out.1).1.c0, HC2⟩)
  (first | (go_at_call 42; refine (ql2 (by assumption) hks).mono ?_; rintro e w2 ⟨rfl, hc2⟩; have HC2 := Lib.hid hc2; clear hc2))
 obtain ⟨e0, e1, e2, ed, ev, em, el⟩ := HC2.out.1.1
 obtain ⟨q1, q2, q3⟩ := HC2.out.1.2.cells
 rw [HS.out] at q2
 clear el
 by_cases hbig : 12 < v.size
 ·have HE : Hid (cd = 3) := Lib.hid (HCD.out.symm.trans (if_pos (by simpa using hbig)))
  have g1 : decide ((12 : Int) < v.size) = true := by simp; omega
  go_wp2
  go_ret
  exact ⟨by rw [HE.out]; rfl, HC2.out.2⟩
 ·have HE : Hid (cd = 5) := Lib.hid (HCD.out.symm.trans (if_neg (by simpa using hbig)))
  have g1 : decide ((12 : Int) < v.size) = false := by simp; omega
  go_wp2
  go_ret
  exact ⟨by rw [HE.out]; rfl, HC2.out.2⟩
end
end
section
def poly : Nat := 2197175160
def qfl (x : Nat) : Nat := if x % 2 = 1 then (x / 2) ^^^ poly else x / 2
def qgh (x bit : Nat) : Nat := if bit ≠ x % 2 then (x / 2) ^^^ poly else x / 2
def qb7 : Nat → Nat → Nat
 |0, x => x
 |k + 1, x => qfl (qb7 k x)
def qat (b : Nat) : Nat → Nat → Nat
 |0, x => x
 |k + 1, x => qgh (qat b k x) (b / 2 ^ k % 2)
theorem qzv (a b : Nat) : (a ^^^ b) / 2 = (a / 2) ^^^ (b / 2) := by
 apply Nat.eq_of_testBit_eq
 intro i
 simp [Nat.testBit_div_two, Nat.testBit_xor]
theorem q3j (a b : Nat) : (a ^^^ b) % 2 = (a % 2 + b % 2) % 2 := by
 have h := Nat.testBit_xor a b 0
 simp only [Nat.testBit_zero] at h
 have e1 := Nat.mod_two_eq_zero_or_one a
 have e2 := Nat.mod_two_eq_zero_or_one b
 have e3 := Nat.mod_two_eq_zero_or_one (a ^^^ b)
 rcases e1 with e1 | e1 <;> rcases e2 with e2 | e2 <;> rcases e3 with e3 | e3 <;> simp [e1, e2, e3] at h ⊢
theorem qn9 (x b : Nat) : ∀ k, qb7 k (x ^^^ b) = qat b k x ^^^ (b / 2 ^ k)
 |0 => by simp [qb7, qat]
 |k + 1 => by
  rw [qb7, qat, qn9 x b k]
  have hd : b / 2 ^ (k + 1) = b / 2 ^ k / 2 := by rw [Nat.pow_succ, Nat.div_div_eq_div_mul]
  rw [hd]
  generalize qat b k x = m
  generalize b / 2 ^ k = c
  unfold qfl qgh
  rw [q3j, qzv]
  have e1 := Nat.mod_two_eq_zero_or_one m
  have e2 := Nat.mod_two_eq_zero_or_one c
  have sw : (m / 2 ^^^ c / 2) ^^^ poly = (m / 2 ^^^ poly) ^^^ c / 2 := by rw [Nat.xor_assoc, Nat.xor_assoc, Nat.xor_comm (c / 2) poly]
  rcases e1 with e1 | e1 <;> rcases e2 with e2 | e2 <;> simp [e1, e2, sw]
theorem qss : poly < 2 ^ 32 := by decide
theorem qqc {x : Nat} (h : x < 2 ^ 32) : qfl x < 2 ^ 32 := by
 unfold qfl
 split
 ·exact Nat.xor_lt_two_pow (by omega) qss
 ·omega
theorem qto {x b : Nat} (h : x < 2 ^ 32) : qgh x b < 2 ^ 32 := by
 unfold qgh
 split
 ·exact Nat.xor_lt_two_pow (by omega) qss
 ·omega
theorem qe7 {x : Nat} (h : x < 2 ^ 32) : ∀ k, qb7 k x < 2 ^ 32
 |0 => h
 |k + 1 => qqc (qe7 h k)
theorem qju {x b : Nat} (h : x < 2 ^ 32) : ∀ k, qat b k x < 2 ^ 32
 |0 => h
 |k + 1 => qto (qju h k)
def qfk (x : Nat) (b : UInt8) : Nat := qb7 8 (x ^^^ b.toNat)
theorem qmv (x : Nat) (b : UInt8) : qfk x b = qat b.toNat 8 x := by
 unfold qfk
 rw [qn9]
 have : b.toNat / 2 ^ 8 = 0 := Nat.div_eq_of_lt b.toNat_lt
 rw [this, Nat.xor_zero]
theorem qiz (b : UInt8) : b.toNat < 256 := b.toNat_lt
theorem qqb {x : Nat} {b : UInt8} (h : x < 2 ^ 32) : qfk x b < 2 ^ 32 := qe7 (Nat.xor_lt_two_pow h (by have := qiz b; omega)) 8
def xg (l : List UInt8) : Nat := l.foldl qfk 4294967295
theorem qse : ∀ (l : List UInt8) (x : Nat), x < 2 ^ 32 → l.foldl qfk x < 2 ^ 32
 | [], _, h => h
 |_ :: l, _, h => qse l _ (qqb h)
theorem qcu (l : List UInt8) : xg l < 2 ^ 32 := qse l _ (by decide)
theorem qg1 (l : List UInt8) (b : UInt8) : xg (l ++ [b]) = qfk (xg l) b := by simp [xg]
def chk (l : List UInt8) : Nat := 4294967295 - xg l
theorem qwc (l : List UInt8) : chk l < 2 ^ 32 := by unfold chk; omega
def b8 (n : Nat) : UInt8 := UInt8.ofNat n
def qae (n : Nat) : List UInt8 := if h : n < 128 then [b8 n] else b8 (128 + n % 128) :: qae (n / 128)
termination_by n
decreasing_by omega
theorem qcz {n : Nat} (h : n < 128) : qae n = [b8 n] := by rw [qae, dif_pos h]
theorem qhb {n : Nat} (h : ¬ n < 128) : qae n = b8 (128 + n % 128) :: qae (n / 128) := by rw [qae, dif_neg h]
def qc7 (s : List UInt8) : List UInt8 := qae s.length ++ s
structure Fr where
 kind : Nat
 qzh : Nat
 id : Nat
 n : Nat
 load : List UInt8
def le4 (x : Nat) : List UInt8 := [b8 x, b8 (x / 256), b8 (x / 65536), b8 (x / 16777216)]
def Fr.body (f : Fr) : List UInt8 := [b8 f.kind, b8 f.qzh] ++ qae f.id ++ qae f.n ++ qc7 f.load
def Fr.bytes (f : Fr) : List UInt8 := f.body ++ le4 (chk f.body)
structure Fr.Ok (f : Fr) : Prop where
 kind : f.kind < 256
 qzh : f.qzh < 256
 id : f.id < 268435456
 n : f.n < 268435456
 load : f.load.length < 268435456
theorem qce {n : Nat} (h : n < 256) : (b8 n).toNat = n := by simp [b8]; omega
end
section
open Go.RowKit Go.Maps
theorem qnd : 4294967295 &&& poly = poly := by decide
theorem qn8 (y : Nat) (hy : y < 2 ^ 32) : bits .xor .u32 ((y : Int) / 2) (bits .and .u32 (-bits .and .u32 (y : Int) 1 % 4294967296) 2197175160) = ((qfl y : Nat) : Int) := by
 have e1 : bits .and .u32 (y : Int) 1 = ((y % 2 : Nat) : Int) := by
  have := u32_and_nat y 1 (by omega) (by decide)
  rw [show ((1 : Nat) : Int) = 1 from rfl, nat_mask1] at this
  exact this
 rw [e1]
 have e2 : ((y : Int) / 2) = ((y / 2 : Nat) : Int) := by omega
 rw [e2]
 unfold qfl
 by_cases h : y % 2 = 1
 ·rw [h, if_pos rfl]
  have e3 : (-((1 : Nat) : Int) % 4294967296) = ((4294967295 : Nat) : Int) := by decide
  rw [e3]
  have e4 := u32_and_nat 4294967295 poly (by decide) (by decide)
  rw [qnd] at e4
  rw [show (2197175160 : Int) = ((poly : Nat) : Int) from rfl, e4]
  exact u32_xor_nat _ _ (by omega) (by decide)
 ·have h0 : y % 2 = 0 := by omega
  rw [h0, if_neg (by decide)]
  have e3 : (-((0 : Nat) : Int) % 4294967296) = ((0 : Nat) : Int) := by decide
  rw [e3]
  have e4 := u32_and_nat 0 poly (by decide) (by decide)
  rw [Nat.zero_and] at e4
  rw [show (2197175160 : Int) = ((poly : Nat) : Int) from rfl, e4]
  have e5 := u32_xor_nat (y / 2) 0 (by omega) (by decide)
  rw [Nat.xor_zero] at e5
  exact e5
theorem q3i (n : Nat) (h : n < 2 ^ 32) : 4294967295 ^^^ n = 4294967295 - n := by
 apply Nat.eq_of_testBit_eq
 intro i
 rw [Nat.testBit_xor, show (4294967295 : Nat) = 2 ^ 32 - 1 from rfl, Nat.testBit_two_pow_sub_one, show 2 ^ 32 - 1 - n = 2 ^ 32 - (n + 1) by omega, Nat.testBit_two_pow_sub_succ h]
 by_cases hi : i < 32
 ·simp [hi]
 ·have : n.testBit i = false := Nat.testBit_lt_two_pow (xll h (Nat.pow_le_pow_right (by decide) (by omega)))
  simp [hi, this]
theorem qhi (n : Nat) (h : n < 9223372036854775808) : IntKind.i64.wrap (n : Int) = (n : Int) := by rw [IntKind.wrap_i64]; omega
theorem qou (a b : Nat) (ha : a < 9223372036854775808) (hb : b < 9223372036854775808) : bits .and .i64 (a : Int) (b : Int) = ((a &&& b : Nat) : Int) := by
 show IntKind.i64.wrap ((BitVec.ofInt 64 (a : Int) &&& BitVec.ofInt 64 (b : Int)).toNat : Int) = _
 rw [BitVec.toNat_and, ofInt_u64 a (by omega), ofInt_u64 b (by omega)]
 exact qhi _ (Nat.lt_of_le_of_lt Nat.and_le_left ha)
theorem qov (a b : Nat) (ha : a < 2 ^ 63) (hb : b < 2 ^ 63) : bits .xor .i64 (a : Int) (b : Int) = ((a ^^^ b : Nat) : Int) := by
 show IntKind.i64.wrap ((BitVec.ofInt 64 (a : Int) ^^^ BitVec.ofInt 64 (b : Int)).toNat : Int) = _
 rw [BitVec.toNat_xor, ofInt_u64 a (by omega), ofInt_u64 b (by omega)]
 exact qhi _ (Nat.xor_lt_two_pow ha hb)
theorem qsi (y : Nat) (hy : y < 2 ^ 32) : bits .and .i64 (y : Int) 1 = ((y % 2 : Nat) : Int) := by
 have := qou y 1 (by omega) (by decide)
 rw [nat_mask1] at this
 exact this
theorem q1m (b m : Nat) (hb : b < 256) : bits .and .i64 (wrap64 ((b : Int) / 2 ^ m)) 1 = ((b / 2 ^ m % 2 : Nat) : Int) := by
 have e : ((b : Int) / 2 ^ m) = ((b / 2 ^ m : Nat) : Int) := by
  rw [Int.natCast_ediv, Int.natCast_pow]; rfl
 have hl : b / 2 ^ m < 256 := Nat.lt_of_le_of_lt (Nat.div_le_self _ _) hb
 rw [e]
 generalize b / 2 ^ m = q at *
 have hw : wrap64 ((q : Nat) : Int) = ((q : Nat) : Int) := by unfold wrap64; omega
 rw [hw]
 exact qsi _ (by omega)
theorem qxg (y : Nat) (hy : y < 2 ^ 32) : wrap64 ((y : Int) / 2) = ((y / 2 : Nat) : Int) := by
 have e : ((y : Int) / 2) = ((y / 2 : Nat) : Int) := by omega
 rw [e]
 unfold wrap64
 omega
theorem qtv (y : Nat) (hy : y < 2 ^ 32) : bits .xor .i64 ((y : Nat) : Int) 2197175160 = ((y ^^^ poly : Nat) : Int) := qov y poly (by omega) (by decide)
section
variable {w : World}
theorem q0t (s : ByteArray) (hs : s.size ≤ 4611686018427387904) : Calls Tryz.prog 117 #[.string s] w fun e w' => e = .returned (.int .u32 (chk s.data.toList : Nat)) ∧ w' = w := by
 go_enter Tryz.func117, Tryz.ntmps117
 go_wp2
 go_loop [3, 4, 7] (fun x y i => ∃ k : Nat, k ≤ s.size ∧ i = .int .i64 k ∧ x = .int .u32 (xg (s.data.toList.take k) : Nat)) (fun _ _ i => s.size - (intOf i).toNat)
 case atStart => exact ⟨0, xzl _, rfl, rfl⟩
 case round =>
  obtain ⟨k, hk, rfl, rfl⟩ := hrel
  by_cases hlt : k < s.size
  ·obtain ⟨X, hX⟩ : ∃ X, xg (s.data.toList.take k) = X := ⟨_, rfl⟩
   have hX2 : X < 2 ^ 32 := hX ▸ qcu _
   have hb : s[k].toNat < 256 := qiz _
   have e0 : bits .xor .u32 (X : Int) ((s[k].toNat : Int) % 4294967296) = ((X ^^^ s[k].toNat : Nat) : Int) := by
    rw [show ((s[k].toNat : Int) % 4294967296) = ((s[k].toNat : Nat) : Int) by omega]
    exact u32_xor_nat _ _ (by omega) (by omega)
   have HS : Hid (xg (s.data.toList.take (k + 1)) = qb7 8 (X ^^^ s[k].toNat)) := Lib.hid (by
    rw [List.take_succ_eq_append_getElem (by simpa using hlt), qg1, hX]; rfl)
   have HY := Lib.hid (Nat.xor_lt_two_pow (n := 32) hX2 (show s[k].toNat < 2 ^ 32 by omega))
   rw [hX]
   have HX := Lib.hid hX
   clear hX hX2 hb
   go_wp2
   generalize (X ^^^ s[k].toNat) = Y at *
   go_loop [3, 16, 18, 19, 20, 21, 22, 23, 24, 25, 17] (fun x j _ _ _ _ _ _ _ _ _ => ∃ m : Nat, m ≤ 8 ∧ j = .int .i64 m ∧ x = .int .u32 (qb7 m Y : Nat)) (fun _ j _ _ _ _ _ _ _ _ _ => 8 - (intOf j).toNat)
   case atStart => exact ⟨0, xzl _, rfl, rfl⟩
   case round =>
    obtain ⟨m, hm, rfl, rfl⟩ := hrel
    by_cases hm8 : m < 8
    ·go_wp2
     go_round
     case rel =>
      refine ⟨m + 1, by omega, by go_num, ?_⟩
      rw [qn8 _ (qe7 HY.out m)]; rfl
     case measure => simp [intOf]; omega
    ·obtain rfl : m = 8 := by omega
     go_wp2
     go_round
     case rel => exact ⟨k + 1, by omega, by go_num, by rw [HS.out]⟩
     case measure => simp [intOf]; omega
  ·obtain rfl : k = s.size := by omega
   go_wp2
   go_ret
   refine ⟨?_, rfl⟩
   have hl : s.data.toList.take s.size = s.data.toList := List.take_of_length_le (by simp)
   have h1 : bits .xor .u32 IntKind.u32.max (xg s.data.toList : Nat) = ((chk s.data.toList : Nat) : Int) := by
    have := u32_xor_nat 4294967295 (xg s.data.toList) (by decide) (qcu _)
    rw [q3i _ (qcu _)] at this
    exact this
   rw [hl, h1]
   rfl
theorem qyz (s : ByteArray) (hs : s.size ≤ 4611686018427387904) : Calls Tryz.prog 126 #[.string s] w fun e w' => e = .returned (.int .i64 (chk s.data.toList : Nat)) ∧ w' = w := by
 go_enter Tryz.func126, Tryz.ntmps126
 go_wp2
 go_loop [3, 4, 5, 6, 7] (fun x i _ _ _ => ∃ k : Nat, k ≤ s.size ∧ i = .int .i64 k ∧ x = .int .i64 (xg (s.data.toList.take k) : Nat)) (fun _ i _ _ _ => s.size - (intOf i).toNat)
 case atStart => exact ⟨0, xzl _, rfl, rfl⟩
 case round =>
  obtain ⟨k, hk, rfl, rfl⟩ := hrel
  by_cases hlt : k < s.size
  ·obtain ⟨X, hX⟩ : ∃ X, xg (s.data.toList.take k) = X := ⟨_, rfl⟩
   have hX2 : X < 2 ^ 32 := hX ▸ qcu _
   have hb : s[k].toNat < 256 := qiz _
   have HS : Hid (xg (s.data.toList.take (k + 1)) = qat s[k].toNat 8 X) := Lib.hid (by
    rw [List.take_succ_eq_append_getElem (by simpa using hlt), qg1, hX, qmv]; rfl)
   have HY := Lib.hid hX2
   rw [hX]
   have HX := Lib.hid hX
   clear hX hX2 hb
   go_wp2
   go_loop [3, 5, 6, 7] (fun x j _ _ => ∃ m : Nat, m ≤ 8 ∧ j = .int .i64 m ∧ x = .int .i64 (qat s[k].toNat m X : Nat)) (fun _ j _ _ => 8 - (intOf j).toNat)
   case atStart => exact ⟨0, xzl _, rfl, rfl⟩
   case round =>
    obtain ⟨m, hm, rfl, rfl⟩ := hrel
    by_cases hm8 : m < 8
    ·have hy := qju (b := s[k].toNat) HY.out m
     have eA := q1m s[k].toNat m (qiz _)
     have eB := qsi _ hy
     have eC := qxg _ hy
     have eD := qtv (qat s[k].toNat m X / 2) (by omega)
     have hc : qat s[k].toNat (m + 1) X = qgh (qat s[k].toNat m X) (s[k].toNat / 2 ^ m % 2) := rfl
     have HC := Lib.hid hc
     generalize qat s[k].toNat m X = Y at *
     generalize s[k].toNat / 2 ^ m % 2 = B at *
     clear hc
     by_cases hbit : B = Y % 2
     ·have g1 : (B != Y % 2) = false := by simpa using hbit
      have g2 : (((B : Nat) : Int) != ((Y % 2 : Nat) : Int)) = false := by simp [hbit]
      have HB := Lib.hid hbit
      clear hbit hy
      go_wp2
      go_round
      case rel => exact ⟨m + 1, by omega, by go_num, by rw [HC.out]; unfold qgh; rw [if_neg (fun e => e HB.out)]; first | rw [eC] | (unfold wrap64; congr 1; omega)⟩
      case measure => simp [intOf]; omega
     ·have g1 : (B != Y % 2) = true := by simpa using hbit
      have g2 : (((B : Nat) : Int) != ((Y % 2 : Nat) : Int)) = true := by simp; omega
      have HB := Lib.hid hbit
      clear hbit hy
      go_wp2
      go_round
      case rel => exact ⟨m + 1, by omega, by go_num, by rw [HC.out]; unfold qgh; rw [if_pos HB.out, ← eD, show ((Y : Int) / 2) = ((Y / 2 : Nat) : Int) by omega]⟩
      case measure => simp [intOf]; omega
    ·obtain rfl : m = 8 := by omega
     go_wp2
     go_round
     case rel => exact ⟨k + 1, by omega, by go_num, by rw [HS.out]⟩
     case measure => simp [intOf]; omega
  ·obtain rfl : k = s.size := by omega
   have hl : s.data.toList.take s.size = s.data.toList := List.take_of_length_le (by simp)
   have hf := qcu s.data.toList
   have h1 : (4294967295 : Int) - (xg s.data.toList : Nat) = ((chk s.data.toList : Nat) : Int) := by unfold chk; omega
   rw [hl]
   have H1 := Lib.hid h1
   have hc : (0 : Int) ≤ (xg s.data.toList : Nat) := by omega
   clear h1
   generalize xg s.data.toList = Z at *
   go_wp2
   go_ret
   exact ⟨by rw [← H1.out]; rfl, rfl⟩
end
theorem qd2 : ∀ (k n : Nat), n < 128 ^ (k + 1) → (qae n).length ≤ k + 1
 |0, n, h => by rw [qcz (by omega)]; simp
 |k + 1, n, h => by
  by_cases hs : n < 128
  ·rw [qcz hs]; simp
  ·rw [qhb hs, List.length_cons]
   have := qd2 k (n / 128) (Nat.div_lt_of_lt_mul (by rw [Nat.pow_succ] at h; omega))
   omega
theorem jbe : ∀ x, x < 256 → x ||| 128 = 128 + x % 128 := by decide
theorem qym (m : Nat) : bits .or .u8 ((m : Int) % 256) 128 = (((b8 (128 + m % 128)).toNat : Nat) : Int) := by
 have e : ((m : Int) % 256) = ((m % 256 : Nat) : Int) := by omega
 rw [e]
 have := u8_or_nat (m % 256) 128 (by omega) (by decide)
 rw [show ((128 : Nat) : Int) = 128 from rfl] at this
 rw [this, jbe _ (by omega), qce (by omega)]
 omega
def bv (b : UInt8) : Value := .int .u8 (b.toNat : Int)
theorem qv7 : ∃ i, Tryz.prog.info? 5 = some i ∧ i.zero = some (.int .u8 0) ∧ i.size = 1 ∧ i.bytes = 1 := by
 have h : (Tryz.prog.info? 5).map (fun i => (i.zero, i.size, i.bytes)) = some (some (.int .u8 0), 1, 1) := by kernel_rfl
 obtain ⟨i, h1, h2⟩ := Option.map_eq_some_iff.1 h
 injection h2 with h2 h3
 injection h3 with h3 h4
 exact ⟨i, h1, h2, h3, h4⟩
theorem qtm {w : World} {base : Nat} {v : Value} {l : List UInt8} (h : w.ownsRow base 5 1 v l.length (l.map bv)) : (convert 139 9 v).run Tryz.prog w = .ok (.string ⟨l.toArray⟩) w := by
 rcases h.2 with ⟨rfl, hz⟩ | ⟨g, cap, cur, rfl, _⟩
 ·have : l = [] := List.length_eq_zero_iff.1 hz
  subst this
  show Sem.run Tryz.prog (convert 139 9 (.slice none 0 0)) w = .ok (.string ⟨#[]⟩) w
  kernel_rfl
 ·exact run_convert_bytes_back (P := Tryz.prog) _ 139 9 5 ⟨g, 0, none⟩ cap l Tryz.underlying139 Tryz.underlying5 Tryz.underlying9 (fun j hj => by
   have := h.cells rfl j (bv l[j]) (by simp [hj])
   rwa [Addr.add_lit] at this ⊢)
structure qnv (N : Nat) (w : World) (l : List UInt8) (m : Nat) (v : Value) (wr : World) : Prop where
 le : m ≤ N
 eq : qae N = l ++ qae m
 own : wr.ownsRow w.heap.size 5 1 v l.length (l.map bv)
 below : Below w.heap.size w wr
theorem qnv.len {N : Nat} {w wr : World} {l : List UInt8} {m : Nat} {v : Value} (h : qnv N w l m v wr) (hN : N < 9223372036854775808) : l.length ≤ 9 := by
 have := qd2 8 N (by simpa using hN)
 rw [h.eq, List.length_append] at this
 have : 0 < (qae m).length := by
  by_cases hs : m < 128
  ·rw [qcz hs]; simp
  ·rw [qhb hs]; simp
 omega
theorem q3q (w : World) (a : Value) (ty : TypeId) : ∀ (j : Nat) (u : Value), [a][j]? = some u → (w.alloc (.cells #[a] ty)).cell? ((⟨w.heap.size, 0, none⟩ : Addr).add j) = some u := fun j u hj => by
 rw [Addr.add_lit, Nat.zero_add]
 match j, hj with
 |0, hj => simp at hj; subst hj; go_simp
theorem qmh {w : World} {base n size : Nat} {ty : TypeId} {v : Value} {xs : List Value} (h : w.ownsRow base ty size v n xs) : ∃ sa cp, v = .slice sa n cp := by
 rcases h.2 with ⟨rfl, hz⟩ | ⟨g, cap, cur, rfl, _⟩
 ·exact ⟨none, 0, by rw [hz]⟩
 ·exact ⟨_, _, rfl⟩
theorem qnv.last {N : Nat} {w wr w2 : World} {l : List UInt8} {m : Nat} {v v2 : Value} {o : Obj} (h : qnv N w l m v wr) (hm : m < 128) (hr : w2.ownsRow w.heap.size 5 1 v2 (l.length + 1) (l.map bv ++ [.int .u8 (m : Int)])) (hg : (wr.alloc o).grownBy w2 v.ownBlock) :
  (convert 139 9 v2).run Tryz.prog w2 = .ok (.string ⟨(qae N).toArray⟩) w2 ∧ Below w.heap.size w w2 := by
 refine ⟨?_, (h.below.alloc h.below.size o).grown hg (by have := h.below.size; simp; omega) fun b hb => (h.own.lt b hb).1⟩
 have e : qae N = l ++ [b8 m] := by rw [h.eq, qcz hm]
 have eb : bv (b8 m) = .int .u8 (m : Int) := by
  unfold bv
  rw [qce (by omega)]
 rw [e]
 refine qtm (base := w.heap.size) ?_
 rw [List.length_append, List.map_append, List.map_cons, List.map_nil, eb]
 exact hr
theorem qnv.more {N : Nat} {w wr w2 : World} {l : List UInt8} {m : Nat} {v v2 : Value} {o : Obj} (h : qnv N w l m v wr) (hm : ¬ m < 128) (hr : w2.ownsRow w.heap.size 5 1 v2 (l.length + 1) (l.map bv ++ [.int .u8 (((b8 (128 + m % 128)).toNat : Nat) : Int)])) (hg : (wr.alloc o).grownBy w2 v.ownBlock) :
  qnv N w (l ++ [b8 (128 + m % 128)]) (m / 128) v2 w2 := by
 refine ⟨xlt (Nat.div_le_self _ _) h.le, ?_, ?_, (h.below.alloc h.below.size o).grown hg (by have := h.below.size; simp; omega) fun b hb => (h.own.lt b hb).1⟩
 ·rw [h.eq, qhb hm]; simp
 ·rw [List.length_append, List.map_append]; exact hr
section
variable {w : World}
theorem qx5 (N : Nat) (hN : N < 9223372036854775808) : Calls Tryz.prog 113 #[.int .i64 N] w fun e w' => e = .returned (.string ⟨(qae N).toArray⟩) ∧ Below w.heap.size w w' := by
 obtain ⟨pi, l1, l2, l3, l4⟩ := qv7
 have HI := Lib.hid (And.intro l1 (And.intro l2 (And.intro l3 l4)))
 have HN := Lib.hid hN
 clear l1 l2 l3 l4
 go_enter Tryz.func113, Tryz.ntmps113
 go_wp2
 go_loopw [0, 3, 4, 5, 6, 7, 8, 9, 10, 11, 12, 13] (fun i v _ _ _ _ _ _ _ _ _ _ wr => ∃ (l : List UInt8) (m : Nat) (sa : Option Addr) (cp : Nat), i = .int .i64 m ∧ v = .slice sa l.length cp ∧ Hid (qnv N w l m (.slice sa l.length cp) wr)) (fun i _ _ _ _ _ _ _ _ _ _ _ _ => (intOf i).toNat)
 case atStart => exact ⟨[], N, none, 0, rfl, rfl, Lib.hid ⟨jy _, rfl, World.ownsRow_nil _ _ _ _, jo _ _⟩⟩
 case round =>
  obtain ⟨l, m, sa, cp, rfl, rfl, HM⟩ := hrel
  have hlen := HM.out.len HN.out
  have hm2 : m ≤ 9223372036854775807 := by have := HM.out.le; have := HN.out; omega
  by_cases hlt : 127 < m
  ·have eA := qym m
   have hsz := HM.out.below.size
   go_wp2_with (at_builtin; (refine wpList_append_own _ rfl (.tmp 8) (.tmp 12) 139 rfl w.heap.size 5 pi _ 1 1 Tryz.underlying139 HI.out.1 HI.out.2.1 HI.out.2.2.1 HI.out.2.2.2 rfl (by decide) (.slice sa l.length cp) l.length (l.map bv) rfl (HM.out.own.alloc _) ⟨wr.heap.size, 0, none⟩ 1 1 [.int .u8 (((b8 (128 + m % 128)).toNat : Nat) : Int)] rfl rfl (q3q wr _ _) (by intro u hu; simp at hu; subst hu; rfl) (by unfold maxLen; omega) (by omega) (by simp; omega) ?_; intro v2 w2 hrow2 hg2 _; obtain ⟨sa2, cp2, hv2⟩ := qmh hrow2; have H2 := Lib.hid (HM.out.more (by omega) hrow2 hg2); rw [hv2] at H2; rw [hv2]; clear hrow2 hg2 hv2))
   go_roundw
   case rel => exact ⟨l ++ [b8 (128 + m % 128)], m / 128, sa2, cp2, by simp, by simp, by simpa using H2⟩
   case measure => simp [intOf]; omega
  ·have hsz := HM.out.below.size
   go_wp2_with (at_builtin; (refine wpList_append_own _ rfl (.tmp 14) (.tmp 17) 139 rfl w.heap.size 5 pi _ 1 1 Tryz.underlying139 HI.out.1 HI.out.2.1 HI.out.2.2.1 HI.out.2.2.2 rfl (by decide) (.slice sa l.length cp) l.length (l.map bv) rfl (HM.out.own.alloc _) ⟨wr.heap.size, 0, none⟩ 1 1 [.int .u8 (m : Int)] rfl rfl (q3q wr _ _) (by intro u hu; simp at hu; subst hu; rfl) (by unfold maxLen; omega) (by omega) (by simp; omega) ?_; intro v2 w2 hrow2 hg2 _; obtain ⟨sa2, cp2, hv2⟩ := qmh hrow2; obtain ⟨q9d, hb2⟩ := HM.out.last (by omega) hrow2 hg2; have HB2 := Lib.hid hb2; rw [hv2] at q9d; rw [hv2]; clear hrow2 hg2 hv2 hb2))
   go_ret
   exact ⟨rfl, HB2.out⟩
theorem q7b (s : ByteArray) (hs : s.size ≤ 140737488355328) : Calls Tryz.prog 114 #[.string s] w fun e w' => e = .returned (.string ⟨(qc7 s.data.toList).toArray⟩) ∧ Below w.heap.size w w' := by
 have hl : (⟨(qc7 s.data.toList).toArray⟩ : ByteArray) = (⟨(qae s.size).toArray⟩ : ByteArray) ++ s := by
  apply ByteArray.ext
  rw [ByteArray.data_append]
  unfold qc7
  apply Array.ext'
  simp
 have hn : (⟨(qae s.size).toArray⟩ : ByteArray).size ≤ 9 := by
  have := qd2 8 s.size (by omega)
  show (qae s.size).toArray.size ≤ 9
  simpa using this
 rw [hl]
 have HC := qx5 (w := w) s.size (by omega)
 have HC := Lib.hid HC
 clear hl
 generalize (⟨(qae s.size).toArray⟩ : ByteArray) = nb at *
 go_enter Tryz.func114, Tryz.ntmps114
 go_wp2_with (go_at_call 113; refine HC.out.mono ?_; rintro e w1 ⟨rfl, hb1⟩; have HB1 := Lib.hid hb1; clear hb1)
 go_ret
 exact ⟨rfl, HB1.out⟩
end
theorem q3s (W : World) (g : Nat) (x : Int) (b : UInt8) (hx : x = b.toNat) (h : W.cell? ⟨g, 0, none⟩ = some (.int .u8 x)) : (convert 139 9 (.slice (some ⟨g, 0, none⟩) 1 1)).run Tryz.prog W = .ok (.string ⟨#[b]⟩) W :=
 run_convert_bytes_back (P := Tryz.prog) _ 139 9 5 ⟨g, 0, none⟩ 1 [b] Tryz.underlying139 Tryz.underlying5 Tryz.underlying9 (fun j hj => by
  have : j = 0 := by simpa using hj
  subst this
  rw [Addr.add_lit, h, hx]; rfl)
theorem q8v {W w1 : World} (hb : Below W.heap.size W w1) : (∀ b o, b < W.heap.size → w1.cell? ⟨b, o, none⟩ = W.cell? ⟨b, o, none⟩) ∧ (∀ b o, b < W.heap.size → w1.frozen? ⟨b, o, none⟩ = W.frozen? ⟨b, o, none⟩) :=
 ⟨fun b o h => hb.cell (p := ⟨b, o, none⟩) h, fun b o h => hb.frozen (p := ⟨b, o, none⟩) h⟩
def qiw (N : Nat) (w : World) (e : Ending) (w' : World) : Prop := e = .returned (.string ⟨(qae N).toArray⟩) ∧ Below w.heap.size w w'
theorem qrh : ∀ (N : Nat) (w : World), N < 9223372036854775808 → Calls Tryz.prog 97 #[.int .i64 N] w (qiw N w) := by
 intro N
 induction N using Nat.strongRecOn with
 |_ N ih =>
  intro w hN
  by_cases h : N < 128
  ·have hcv := q3s (w.alloc (.cells #[.int .u8 (N : Int)] 5)) w.heap.size (N : Int) (b8 N) (by rw [qce (by omega)]) (by go_simp)
   have hr : (⟨(qae N).toArray⟩ : ByteArray) = ⟨#[b8 N]⟩ := by rw [qcz h]
   unfold qiw
   rw [hr]
   clear hr
   go_enter Tryz.func97, Tryz.ntmps97
   go_wp2
   go_ret
   exact ⟨rfl, (jo _ _).alloc (jy _) _⟩
  ·obtain ⟨M, hM⟩ : ∃ M, N / 128 = M := ⟨_, rfl⟩
   obtain ⟨r, hR⟩ : ∃ r, N % 128 = r := ⟨_, rfl⟩
   have hr2 : r < 128 := by omega
   have HI := Lib.hid (fun w => ih M (by omega) w (by omega))
   have hb : (b8 (128 + r)).toNat = 128 + r := qce (by omega)
   have hcv : ∀ (W : World) (g : Nat), W.cell? ⟨g, 0, none⟩ = some (.int .u8 (128 + (r : Int))) → (convert 139 9 (.slice (some ⟨g, 0, none⟩) 1 1)).run Tryz.prog W = .ok (.string ⟨#[b8 (128 + r)]⟩) W := fun W g hW => q3s W g _ (b8 (128 + r)) (by rw [hb]; omega) hW
   have hr : (⟨(qae N).toArray⟩ : ByteArray) = (⟨#[b8 (128 + r)]⟩ : ByteArray) ++ (⟨(qae M).toArray⟩ : ByteArray) := by
    rw [qhb h, hM, hR]
    apply ByteArray.ext
    rw [ByteArray.data_append]
    apply Array.ext'
    simp
   have hn : (⟨(qae M).toArray⟩ : ByteArray).size ≤ 9 := by
    have := qd2 8 M (by omega)
    show (qae M).toArray.size ≤ 9
    simpa using this
   have hn1 : (⟨#[b8 (128 + r)]⟩ : ByteArray).size = 1 := rfl
   unfold qiw at HI ⊢
   rw [hr]
   have ht : (N : Int).tmod 128 = (r : Int) := by rw [Int.tmod_eq_emod_of_nonneg (by omega)]; omega
   have hw : IntKind.i64.wrap (128 + (r : Int)) = 128 + (r : Int) := by rw [IntKind.wrap_i64]; omega
   have hw8 : IntKind.u8.wrap (128 + (r : Int)) = 128 + (r : Int) := by rw [IntKind.wrap_u8']; omega
   have hd : IntKind.i64.wrap ((N : Int) / 128) = (M : Int) := by rw [IntKind.wrap_i64]; omega
   have hlt : decide ((N : Int) < 128) = false := xdf (by omega)
   clear hr hb hM hR ih h
   generalize (⟨(qae M).toArray⟩ : ByteArray) = nb at *
   generalize (⟨#[b8 (128 + r)]⟩ : ByteArray) = n1 at *
   go_enter Tryz.func97, Tryz.ntmps97
   go_wp2
   go_region_with (first | (go_at_call 97; (refine (HI.out _).mono ?_; rintro e w2 ⟨rfl, hb2⟩; obtain ⟨hc2, hf2⟩ := q8v hb2; have HB2 := Lib.hid hb2; clear hb2)))
   all_goals
    go_wp2
    go_ret
    refine ⟨rfl, ?_⟩
    first
     |exact ((jo _ w).alloc (jy _) _).drew.trans (HB2.out.mono (by simp))
     |exact ((jo w.heap.size w).drew.trans (HB2.out.mono (jy _))).alloc (by have := HB2.out.size; simpa using this) _
theorem q2j {w : World} (s : ByteArray) (hs : s.size ≤ 140737488355328) : Calls Tryz.prog 98 #[.string s] w fun e w' => e = .returned (.string ⟨(qc7 s.data.toList).toArray⟩) ∧ Below w.heap.size w w' := by
 have hl : (⟨(qc7 s.data.toList).toArray⟩ : ByteArray) = (⟨(qae s.size).toArray⟩ : ByteArray) ++ s := by
  apply ByteArray.ext
  rw [ByteArray.data_append]
  unfold qc7
  apply Array.ext'
  simp
 have hn : (⟨(qae s.size).toArray⟩ : ByteArray).size ≤ 9 := by
  have := qd2 8 s.size (by omega)
  show (qae s.size).toArray.size ≤ 9
  simpa using this
 rw [hl]
 have HC := qrh s.size w (by omega)
 unfold qiw at HC
 have HC := Lib.hid HC
 clear hl
 generalize (⟨(qae s.size).toArray⟩ : ByteArray) = nb at *
 go_enter Tryz.func98, Tryz.ntmps98
 go_wp2_with (go_at_call 97; refine HC.out.mono ?_; rintro e w1 ⟨rfl, hb1⟩; have HB1 := Lib.hid hb1; clear hb1)
 go_ret
 exact ⟨rfl, HB1.out⟩
end
end Go.Proofs.YtkpekiajdlolnabGreat
namespace Go.Proofs.YtkpekiajdlolnabGreat.Ph
open Go.Conc Go.ConcN Go.RowKit Go.Maps Go.Conc.Lib Go Sim
section
variable {P : Program} {ops : Array Oper} {n : Nat} {x0 : Nat → Value} {w0 : World} {KN : Nat → Value → World → Prop}
def qt7 (ops : Array Oper) (n : Nat) : Bool :=
 (List.range ops.size).all fun j => match ops[j]? with
  |some o => o.guard.isNone && (match o.dst with | some d => decide (d < n) | none => false) && (o.after.all fun e => decide (e.on < j)) && ((List.range ops.size).all fun i => i == j || (match ops[i]? with | some p => !(p.dst == o.dst) | none => true))
  |none => false
structure RV (ops : Array Oper) (n : Nat) (x0 : Nat → Value) (w0 : World) (KN : Nat → Value → World → Prop) (listed : Array Bool) (a : Act) (w : World) : Prop where
 size : listed.size = ops.size
 lay : ∃ x, a = ⟨lay n x, []⟩ ∧ (∀ s, (∀ (j : Nat) o, ops[j]? = some o → o.dst ≠ some s) → x s = x0 s) ∧ ∀ (j : Nat) o d, listed.getD j false = true → ops[j]? = some o → o.dst = some d → KN j (x d) w
 below : Below w0.heap.size w0 w
theorem qsl (h : qt7 ops n = true) {j : Nat} {o : Oper} (ho : ops[j]? = some o) : o.guard = none ∧ (∃ d, o.dst = some d ∧ d < n) ∧ (∀ e ∈ o.after, e.on < j) ∧ ∀ i p, ops[i]? = some p → i ≠ j → p.dst ≠ o.dst := by
 unfold qt7 at h
 rw [List.all_eq_true] at h
 have hj : j < ops.size := (zx ho).1
 have := h j (List.mem_range.2 hj)
 rw [ho] at this
 simp only [Bool.and_eq_true, Option.isNone_iff_eq_none] at this
 obtain ⟨⟨⟨h1, h2⟩, h3⟩, h4⟩ := this
 refine ⟨h1, ?_, fun e he => ?_, fun i p hp hne hd => ?_⟩
 ·cases hd : o.dst with
  |none => rw [hd] at h2; cases h2
  |some d => rw [hd] at h2; exact ⟨d, rfl, of_decide_eq_true h2⟩
 ·exact of_decide_eq_true ((Array.all_eq_true_iff_forall_mem.1 h3) e he)
 ·rw [List.all_eq_true] at h4
  have hi := (zx hp).1
  have := h4 i (List.mem_range.2 hi)
  rw [hp] at this
  simp [hne, hd] at this
def left (m : Nat) (listed : Array Bool) : Nat := (List.range m).countP fun j => !listed.getD j true
theorem qj7 {m : Nat} {listed : Array Bool} {i : Nat} (hi : i < m) (hs : listed.size = m) (h : listed.getD i true = false) : left m (listed.setIfInBounds i true) + 1 = left m listed := by
 refine qgg _ _ i (fun j hj => ?_) (by simpa using h) ?_ _ List.nodup_range (List.mem_range.2 hi)
 ·rw [getD_set_ne true (Ne.symm hj)]
 ·have : i < listed.size := by omega
  simp [this]
theorem qo0 {m : Nat} {listed : Array Bool} {j : Nat} (hj : j < m) (h : listed.getD j true = false) : 0 < left m listed :=
 List.countP_pos_iff.2 ⟨j, List.mem_range.2 hj, by simp [h]⟩
theorem qjo (h : qt7 ops n = true) {listed : Array Bool} (hs : listed.size = ops.size) (hr : Region.ready .any ops listed = []) : ∀ j, j < ops.size → listed.getD j false = true := by
 intro j
 induction j using Nat.strongRecOn with
 |_ j ih =>
  intro hj
  cases hv : listed.getD j false with
  |true => rfl
  |false =>
   exfalso
   obtain ⟨o, ho⟩ : ∃ o, ops[j]? = some o := ⟨_, Array.getElem?_eq_getElem hj⟩
   have hlt : j < listed.size := by omega
   have : j ∈ Region.ready .any ops listed := mem_ready.2 ⟨by simp [hlt] at hv ⊢; exact hv, o, ho, fun e he _ => by
    have := (qsl h ho).2.2.1 e he
    exact ih e.on this (by omega)⟩
   rw [hr] at this
   cases this
theorem qd7 {id : Nat} {a : Act} {w : World} {Q : Exit → Act → World → Prop} (hm : P.follows .mixedOrders = true) (hn : qt7 ops n = true) (ha : ∃ x, a = ⟨lay n x, []⟩ ∧ ∀ s, x s = x0 s) (hw : w0 = w.drew)
  (hk : ∀ j v w w', Below w.heap.size w w' → KN j v w → KN j v w')
  (step : ∀ (j : Nat) o d x w, ops[j]? = some o → o.dst = some d → (∀ s, (∀ (j : Nat) o, ops[j]? = some o → o.dst ≠ some s) → x s = x0 s) → (∀ (i : Nat) p e, ops[i]? = some p → p.dst = some e → (∃ ed ∈ o.after, ed.on = i ∧ Region.binds .any ed = true) → KN i (x e) w) → Below w0.heap.size w0 w →
   o.wp P ⟨lay n x, []⟩ w (fun a' w' => ∃ v, a' = ⟨lay n (upd x d v), []⟩ ∧ KN j v w' ∧ Below w.heap.size w w') Q)
  (done : ∀ x w, (∀ s, (∀ (j : Nat) o, ops[j]? = some o → o.dst ≠ some s) → x s = x0 s) → (∀ (j : Nat) o d, ops[j]? = some o → o.dst = some d → KN j (x d) w) → Below w0.heap.size w0 w → Q .normal ⟨lay n x, []⟩ w) :
  (Code.region id ops true).wp P Q a w := by
 refine wp_region_any hm ?_
 have main : ∀ fuel listed a w, left ops.size listed ≤ fuel → RV ops n x0 w0 KN listed a w → wpAny P .any ops Q fuel listed a w := by
  intro fuel
  have fin : ∀ listed a w, RV ops n x0 w0 KN listed a w → Region.ready .any ops listed = [] → Q .normal a w := by
   rintro listed a w ⟨h1, ⟨x, rfl, h2, h3⟩, h4⟩ hr
   exact done x w h2 (fun j o d ho hd => h3 j o d (qjo hn h1 hr j (zx ho).1) ho hd) h4
  induction fuel with
  |zero =>
   intro listed a w hl hv
   have hr : Region.ready .any ops listed = [] := by
    cases hq : Region.ready .any ops listed with
    |nil => rfl
    |cons j r =>
     exfalso
     have hj : j ∈ Region.ready .any ops listed := by rw [hq]; exact .head _
     obtain ⟨h1, o, ho, _⟩ := mem_ready.1 hj
     have := qo0 (zx ho).1 h1
     omega
   exact ⟨hr, fin listed a w hv hr⟩
  |succ fuel ih =>
   intro listed a w hl hv
   refine ⟨fin listed a w hv, fun j hj => ?_⟩
   obtain ⟨h1, o, ho, h3⟩ := mem_ready.1 hj
   obtain ⟨hg, ⟨d, hd, hdn⟩, qz, hdst⟩ := qsl hn ho
   obtain ⟨hsz, ⟨x, rfl, hx, hkn⟩, hb⟩ := hv
   unfold wpOp
   rw [ho]
   simp only [Region.wanted, hg, if_true]
   refine .inl (Oper.wp_mono ?_ (step j o d x w ho hd hx (fun i p e hp he ⟨ed, hed, h5, h6⟩ => hkn i p e (by rw [← h5]; exact h3 ed hed h6) hp he) hb))
   rintro a' w' ⟨v, rfl, hv, hb'⟩
   have hjs : j < ops.size := (zx ho).1
   refine ih _ _ _ (by have := qj7 hjs hsz h1; omega) ⟨by simpa using hsz, ⟨_, rfl, fun s hs => ?_, fun i p e hi hp he => ?_⟩, hb.trans (hb'.mono hb.size)⟩
   ·unfold upd
    rw [if_neg fun e => hs j o ho (by rw [hd, e])]
    exact hx s hs
   ·by_cases e1 : i = j
    ·subst e1
     rw [ho] at hp
     cases hp
     rw [hd] at he
     cases he
     unfold upd
     rw [if_pos rfl]
     exact hv
    ·have hne : e ≠ d := fun e2 => hdst i p hp e1 (by rw [he, hd, e2])
     unfold upd
     rw [if_neg hne]
     rw [getD_set_ne false (Ne.symm e1)] at hi
     exact hk i _ w w' hb' (hkn i p e hi hp he)
 obtain ⟨x, rfl, hx⟩ := ha
 subst hw
 refine main _ _ _ _ (xlt (List.countP_le_length) (by simp)) ⟨by simp, ⟨x, rfl, fun s _ => hx s, fun j o d hj ho hd => ?_⟩, jo _ _⟩
 have : j < ops.size := (zx ho).1
 simp [this] at hj
theorem qh {a : Act} {w w' : World} {o : Oper} {v : Value} {next : Act → World → Prop} {Q : Exit → Act → World → Prop} (h : (execOp a.eval o).run P w = .ok (.value v) w') (k : next (a.put o.dst v) w') : o.wp P a w next Q := by
 unfold Oper.wp
 rw [h]
 exact k
end
def waits (ops : Array Oper) (m : Nat) : List Bool → Nat → List Bool
 |S, 0 => S
 |S, j + 1 => waits ops m (if S.getD j false then (match ops[j]? with
  |some o => S.mapIdx fun i b => b || o.after.toList.any fun e => e.on == i && Region.binds .any e
  |none => S) else S) j
def qha (ops : Array Oper) (n : Nat) : Bool :=
 (decide (0 < ops.size)) && ((List.range ops.size).all fun j => match ops[j]? with
  |some o => o.guard.isNone && (match o.dst with | some d => decide (d < n) && decide (j + 1 < ops.size) | none => decide (j + 1 = ops.size)) && (o.after.all fun e => decide (e.on < j)) && ((List.range ops.size).all fun i => i == j || (match ops[i]? with | some p => !(p.dst == o.dst) | none => true))
  |none => false) && ((waits ops (ops.size - 1) ((List.range ops.size).map fun i => i + 1 == ops.size) ops.size).all id)
section
variable {P : Program} {ops : Array Oper} {n : Nat} {x0 : Nat → Value} {KN : Nat → Value → World → Prop} {turn : Nat} {J : Bool → World → Prop}
def qvr (ops : Array Oper) (listed : Array Bool) : Prop := ∀ (j : Nat) o, ops[j]? = some o → listed.getD j false = true → ∀ e ∈ o.after, Region.binds .any e = true → listed.getD e.on false = true
theorem qkx (ops : Array Oper) (m : Nat) {listed : Array Bool} (hs : qvr ops listed) : ∀ (k : Nat) (S : List Bool), (∀ i, S.getD i false = true → listed.getD i false = true) → ∀ i, (waits ops m S k).getD i false = true → listed.getD i false = true
 |0, S, h => h
 |k + 1, S, h => by
  unfold waits
  refine qkx ops m hs k _ ?_
  intro i hi
  split at hi
  ·rename_i hk
   have hkl := h k hk
   split at hi
   ·rename_i o ho
    rw [List.getD_eq_getElem?_getD, List.getElem?_mapIdx] at hi
    cases hb : S[i]? with
    |none => rw [hb] at hi; cases hi
    |some b =>
     rw [hb] at hi
     simp only [Option.map_some, Option.getD_some, Bool.or_eq_true, List.any_eq_true] at hi
     rcases hi with hi | ⟨e, he, h2⟩
     ·exact h i (by rw [List.getD_eq_getElem?_getD, hb]; exact hi)
     ·simp only [Bool.and_eq_true, beq_iff_eq] at h2
      rw [← h2.1]
      exact hs k o ho hkl e (by simpa using he) h2.2
   ·exact h i hi
  ·exact h i hi
theorem qo7 (h : qha ops n = true) {j : Nat} {o : Oper} (ho : ops[j]? = some o) : o.guard = none ∧ (∀ e ∈ o.after, e.on < j) ∧ (∀ i p, ops[i]? = some p → i ≠ j → p.dst ≠ o.dst) ∧ ((∃ d, o.dst = some d ∧ d < n ∧ j + 1 < ops.size) ∨ (o.dst = none ∧ j + 1 = ops.size)) := by
 unfold qha at h
 simp only [Bool.and_eq_true] at h
 have h := h.1.2
 rw [List.all_eq_true] at h
 have hj : j < ops.size := (zx ho).1
 have := h j (List.mem_range.2 hj)
 rw [ho] at this
 simp only [Bool.and_eq_true, Option.isNone_iff_eq_none] at this
 obtain ⟨⟨⟨h1, h2⟩, h3⟩, h4⟩ := this
 refine ⟨h1, fun e he => of_decide_eq_true ((Array.all_eq_true_iff_forall_mem.1 h3) e he), fun i p hp hne hd => ?_, ?_⟩
 ·rw [List.all_eq_true] at h4
  have hi := (zx hp).1
  have := h4 i (List.mem_range.2 hi)
  rw [hp] at this
  simp [hne, hd] at this
 ·cases hd : o.dst with
  |none => rw [hd] at h2; exact .inr ⟨rfl, of_decide_eq_true h2⟩
  |some d => rw [hd] at h2; simp only [Bool.and_eq_true] at h2; exact .inl ⟨d, rfl, of_decide_eq_true h2.1, of_decide_eq_true h2.2⟩
structure RS (ops : Array Oper) (n : Nat) (x0 : Nat → Value) (turn : Nat) (J : Bool → World → Prop) (KN : Nat → Value → World → Prop) (Q : Exit → Act → World → Prop) (listed : Array Bool) (a : Act) (w : World) : Prop where
 size : listed.size = ops.size
 shut : qvr ops listed
 go : (listed.getD (ops.size - 1) true = false ∧ J (listed.getD turn false) w ∧ ∃ x, a = ⟨lay n x, []⟩ ∧ (∀ s, (∀ (j : Nat) o, ops[j]? = some o → o.dst ≠ some s) → x s = x0 s) ∧ ∀ (j : Nat) o d, listed.getD j false = true → ops[j]? = some o → o.dst = some d → KN j (x d) w) ∨ (listed.getD (ops.size - 1) false = true ∧ Q .normal a w)
theorem qa5 {id : Nat} {a : Act} {w : World} {Q : Exit → Act → World → Prop} (hm : P.follows .mixedOrders = true) (hn : qha ops n = true) (ha : ∃ x, a = ⟨lay n x, []⟩ ∧ ∀ s, x s = x0 s) (hw : J false w.drew)
  (step : ∀ (j : Nat) o d x w (b : Bool), (j = turn → b = false) → ops[j]? = some o → o.dst = some d → (∀ s, (∀ (j : Nat) o, ops[j]? = some o → o.dst ≠ some s) → x s = x0 s) → (∀ (i : Nat) p e, ops[i]? = some p → p.dst = some e → (∃ ed ∈ o.after, ed.on = i ∧ Region.binds .any ed = true) → KN i (x e) w) → J b w →
   o.wp P ⟨lay n x, []⟩ w (fun a' w' => ∃ v, a' = ⟨lay n (upd x d v), []⟩ ∧ KN j v w' ∧ J (b || j == turn) w' ∧ ∀ i u, i ≠ j → KN i u w → KN i u w') Q)
  (last : ∀ (m : Nat) o x w, m + 1 = ops.size → ops[m]? = some o → (∀ s, (∀ (j : Nat) o, ops[j]? = some o → o.dst ≠ some s) → x s = x0 s) → (∀ (j : Nat) o d, ops[j]? = some o → o.dst = some d → KN j (x d) w) → J (decide (turn + 1 < ops.size)) w → o.wp P ⟨lay n x, []⟩ w (fun a' w' => Q .normal a' w') Q) :
  (Code.region id ops true).wp P Q a w := by
 refine wp_region_any hm ?_
 have hpos : 0 < ops.size := by
  unfold qha at hn
  simp only [Bool.and_eq_true, decide_eq_true_eq] at hn
  exact hn.1.1
 have hwt : ((waits ops (ops.size - 1) ((List.range ops.size).map fun i => i + 1 == ops.size) ops.size).all (fun b => b)) = true := by
  unfold qha at hn
  simp only [Bool.and_eq_true] at hn
  exact hn.2
 have hwl : ∀ (k : Nat) (S : List Bool), (waits ops (ops.size - 1) S k).length = S.length := by
  intro k
  induction k with
  |zero => intro S; rfl
  |succ k ih =>
   intro S
   unfold waits
   rw [ih]
   split
   ·split
    ·simp
    ·rfl
   ·rfl
 -- if none is ready, all are done
 have qjo : ∀ {listed : Array Bool}, listed.size = ops.size → Region.ready .any ops listed = [] → ∀ j, j < ops.size → listed.getD j false = true := by
  intro listed hs hre j
  induction j using Nat.strongRecOn with
  |_ j ih =>
   intro hj
   cases hv : listed.getD j false with
   |true => rfl
   |false =>
    exfalso
    obtain ⟨o, ho⟩ : ∃ o, ops[j]? = some o := ⟨_, Array.getElem?_eq_getElem hj⟩
    have hlt : j < listed.size := by omega
    have : j ∈ Region.ready .any ops listed := mem_ready.2 ⟨by simp [hlt] at hv ⊢; exact hv, o, ho, fun e he _ => by
     have := (qo7 hn ho).2.1 e he
     exact ih e.on this (by omega)⟩
    rw [hre] at this
    cases this
 have main : ∀ fuel listed a w, left ops.size listed ≤ fuel → RS ops n x0 turn J KN Q listed a w → wpAny P .any ops Q fuel listed a w := by
  intro fuel
  have fin : ∀ listed a w, RS ops n x0 turn J KN Q listed a w → Region.ready .any ops listed = [] → Q .normal a w := by
   rintro listed a w ⟨h1, h2, h3⟩ hre
   rcases h3 with ⟨h3, _⟩ | ⟨_, h3⟩
   ·have := qjo h1 hre (ops.size - 1) (by omega)
    have hlt : ops.size - 1 < listed.size := by omega
    simp [hlt] at this h3
    rw [this] at h3; cases h3
   ·exact h3
  induction fuel with
  |zero =>
   intro listed a w hl hv
   have hre : Region.ready .any ops listed = [] := by
    cases hq : Region.ready .any ops listed with
    |nil => rfl
    |cons j r =>
     exfalso
     have hj : j ∈ Region.ready .any ops listed := by rw [hq]; exact .head _
     obtain ⟨h1, o, ho, _⟩ := mem_ready.1 hj
     have := qo0 (zx ho).1 h1
     omega
   exact ⟨hre, fin listed a w hv hre⟩
  |succ fuel ih =>
   intro listed a w hl hv
   refine ⟨fin listed a w hv, fun j hj => ?_⟩
   obtain ⟨h1, o, ho, h3⟩ := mem_ready.1 hj
   obtain ⟨hg, qz, hdst, hcase⟩ := qo7 hn ho
   obtain ⟨hsz, hsh, hgo⟩ := hv
   have hjs : j < ops.size := (zx ho).1
   -- the list is shut behind it, too
   have hsh' : qvr ops (listed.setIfInBounds j true) := by
    intro i p hp hi e he hbe
    by_cases e1 : i = j
    ·subst e1
     rw [ho] at hp
     cases hp
     have hlt := qz e he
     rw [getD_set_ne false (by omega)]
     exact h3 e he hbe
    ·rw [getD_set_ne false (Ne.symm e1)] at hi
     have h4 := hsh i p hp hi e he hbe
     by_cases e2 : e.on = j
     ·rw [e2]
      have : j < listed.size := by omega
      simp [this]
     ·rw [getD_set_ne false (Ne.symm e2)]; exact h4
   -- were the last one done, all would be
   have hopen : listed.getD (ops.size - 1) false ≠ true := fun hT => by
    have hall := qkx ops (ops.size - 1) hsh ops.size ((List.range ops.size).map fun i => i + 1 == ops.size) (fun i hi => by
     rw [List.getD_eq_getElem?_getD, List.getElem?_map] at hi
     by_cases hi2 : i < ops.size
     ·rw [List.getElem?_range hi2] at hi
      simp only [Option.map_some, Option.getD_some, beq_iff_eq] at hi
      rw [show i = ops.size - 1 by omega]; exact hT
     ·rw [List.getElem?_eq_none (by simp; omega)] at hi
      cases hi) j (by
     rw [List.all_eq_true] at hwt
     have hlen : j < (waits ops (ops.size - 1) ((List.range ops.size).map fun i => i + 1 == ops.size) ops.size).length := by rw [hwl]; simp; exact hjs
     rw [List.getD_eq_getElem?_getD, List.getElem?_eq_getElem hlen]
     exact hwt _ (List.getElem_mem hlen))
    have hlt : j < listed.size := by omega
    simp [hlt] at hall h1
    rw [hall] at h1; cases h1
   obtain ⟨hnl, hR, x, rfl, hx, hkn⟩ : _ := hgo.resolve_right fun h => hopen h.1
   unfold wpOp
   rw [ho]
   simp only [Region.wanted, hg, if_true]
   rcases hcase with ⟨d, hd, hdn, hjm⟩ | ⟨hd, hjm⟩
   ·refine .inl (Oper.wp_mono ?_ (step j o d x w (listed.getD turn false) (fun e => ?_) ho hd hx (fun i p e hp he ⟨ed, hed, h5, h6⟩ => hkn i p e (by rw [← h5]; exact h3 ed hed h6) hp he) hR))
    rotate_left
    ·rw [← e]
     have hlt : j < listed.size := by omega
     simp [hlt] at h1 ⊢
     exact h1
    rintro a' w' ⟨v, rfl, hv, hb', hk⟩
    have hb' : J ((listed.setIfInBounds j true).getD turn false) w' := by
     by_cases e : j = turn
     ·subst e
      have hlt : j < listed.size := by omega
      simp [hlt] at hb' ⊢
      exact hb'
     ·rw [getD_set_ne false e]
      have e2 : (j == turn) = false := by simpa using e
      rw [e2, Bool.or_false] at hb'
      exact hb'
    refine ih _ _ _ (by have := qj7 hjs hsz h1; omega) ⟨by simpa using hsz, hsh', .inl ⟨by rw [getD_set_ne true (by omega)]; exact hnl, hb', _, rfl, fun s hs => ?_, fun i p e hi hp he => ?_⟩⟩
    ·unfold upd
     rw [if_neg fun e => hs j o ho (by rw [hd, e])]
     exact hx s hs
    ·by_cases e1 : i = j
     ·subst e1
      rw [ho] at hp
      cases hp
      rw [hd] at he
      cases he
      unfold upd
      rw [if_pos rfl]
      exact hv
     ·have hne : e ≠ d := fun e2 => hdst i p hp e1 (by rw [he, hd, e2])
      unfold upd
      rw [if_neg hne]
      rw [getD_set_ne false (Ne.symm e1)] at hi
      exact hk i _ e1 (hkn i p e hi hp he)
   ·have hall : ∀ i, i < ops.size - 1 → listed.getD i false = true := by
     intro i hi
     have hall := qkx ops (ops.size - 1) hsh' ops.size ((List.range ops.size).map fun i => i + 1 == ops.size) (fun i hi => by
      rw [List.getD_eq_getElem?_getD, List.getElem?_map] at hi
      by_cases hi2 : i < ops.size
      ·rw [List.getElem?_range hi2] at hi
       simp only [Option.map_some, Option.getD_some, beq_iff_eq] at hi
       rw [show i = j by omega]
       have : j < listed.size := by omega
       simp [this]
      ·rw [List.getElem?_eq_none (by simp; omega)] at hi
       cases hi) i (by
      rw [List.all_eq_true] at hwt
      have hlen : i < (waits ops (ops.size - 1) ((List.range ops.size).map fun i => i + 1 == ops.size) ops.size).length := by rw [hwl]; simp; omega
      rw [List.getD_eq_getElem?_getD, List.getElem?_eq_getElem hlen]
      exact hwt _ (List.getElem_mem hlen))
     rw [getD_set_ne false (by omega)] at hall
     exact hall
    refine .inl (Oper.wp_mono ?_ (last j o x w hjm ho hx (fun i p d hp hd' => hkn i p d (hall i ?_) hp hd') (by
     have : listed.getD turn false = decide (turn + 1 < ops.size) := by
      by_cases e : turn + 1 < ops.size
      ·rw [hall turn (by omega)]; simp [e]
      ·by_cases e2 : turn = ops.size - 1
       ·rw [e2]
        have hlt : ops.size - 1 < listed.size := by omega
        simp [hlt] at hnl ⊢
        rw [hnl]; simp; omega
       ·simp [e, show ¬ turn < listed.size by omega]
     rw [← this]; exact hR)))
    ·intro a' w' hq
     refine ih _ _ _ (by have := qj7 hjs hsz h1; omega) ⟨by simpa using hsz, hsh', .inr ⟨?_, hq⟩⟩
     rw [show ops.size - 1 = j by omega]
     have : j < listed.size := by omega
     simp [this]
    ·have hi := (zx hp).1
     rcases Nat.lt_or_ge i (ops.size - 1) with h | h
     ·exact h
     ·exfalso
      have : i = j := by omega
      subst this
      rw [ho] at hp
      cases hp
      rw [hd] at hd'; cases hd'
 obtain ⟨x, rfl, hx⟩ := ha
 have h0f : J ((Array.replicate ops.size false).getD turn false) w.drew := by
  have : (Array.replicate ops.size false).getD turn false = false := by
   by_cases h : turn < ops.size <;> simp [h]
  rw [this]
  exact hw
 refine main _ _ _ _ (xlt (List.countP_le_length) (by simp)) ⟨by simp, fun j o ho hj => ?_, .inl ⟨?_, h0f, x, rfl, fun s _ => hx s, fun j o d hj ho hd => ?_⟩⟩
 ·have : j < ops.size := (zx ho).1
  simp [this] at hj
 ·have : ops.size - 1 < ops.size := by omega
  simp [this]
 ·have : j < ops.size := (zx ho).1
  simp [this] at hj
end
theorem qcy {ops : Array Oper} {s : Nat} (h : (ops.toList.all fun o => !(o.dst == some s)) = true) : ∀ (j : Nat) o, ops[j]? = some o → o.dst ≠ some s := fun j o ho e => by
 rw [List.all_eq_true] at h
 have := h o (by rw [← Array.getElem?_toList] at ho; exact List.mem_of_getElem? ho)
 rw [e] at this
 simp at this
theorem qg {o : Oper} {i : Nat} (h : (o.after.toList.any fun e => e.on == i && Region.binds .any e) = true) : ∃ ed ∈ o.after, ed.on = i ∧ Region.binds .any ed = true := by
 rw [List.any_eq_true] at h
 obtain ⟨e, h1, h2⟩ := h
 simp only [Bool.and_eq_true, beq_iff_eq] at h2
 exact ⟨e, by simpa using h1, h2.1, h2.2⟩
theorem q3t (W : World) (g : Nat) (x y : Int) (a b : UInt8) (hx : x = a.toNat) (hy : y = b.toNat) (h0 : W.cell? ⟨g, 0, none⟩ = some (.int .u8 x)) (h1 : W.cell? ⟨g, 1, none⟩ = some (.int .u8 y)) : (convert 139 9 (.slice (some ⟨g, 0, none⟩) 2 2)).run Tryz.prog W = .ok (.string ⟨#[a, b]⟩) W :=
 run_convert_bytes_back (P := Tryz.prog) _ 139 9 5 ⟨g, 0, none⟩ 2 [a, b] Tryz.underlying139 Tryz.underlying5 Tryz.underlying9 (fun j hj => by
  rw [Addr.add_lit, Nat.zero_add]
  have hj : j < 2 := hj
  match j, hj with
  |0, _ => rw [h0, hx]; rfl
  |1, _ => rw [h1, hy]; rfl)
theorem q8y (W : World) (g : Nat) (x0 x1 x2 x3 : Int) (a b c d : UInt8) (e0 : x0 = a.toNat) (e1 : x1 = b.toNat) (e2 : x2 = c.toNat) (e3 : x3 = d.toNat) (h0 : W.cell? ⟨g, 0, none⟩ = some (.int .u8 x0)) (h1 : W.cell? ⟨g, 1, none⟩ = some (.int .u8 x1)) (h2 : W.cell? ⟨g, 2, none⟩ = some (.int .u8 x2)) (h3 : W.cell? ⟨g, 3, none⟩ = some (.int .u8 x3)) :
  (convert 139 9 (.slice (some ⟨g, 0, none⟩) 4 4)).run Tryz.prog W = .ok (.string ⟨#[a, b, c, d]⟩) W :=
 run_convert_bytes_back (P := Tryz.prog) _ 139 9 5 ⟨g, 0, none⟩ 4 [a, b, c, d] Tryz.underlying139 Tryz.underlying5 Tryz.underlying9 (fun j hj => by
  rw [Addr.add_lit, Nat.zero_add]
  have hj : j < 4 := hj
  match j, hj with
  |0, _ => rw [h0, e0]; rfl
  |1, _ => rw [h1, e1]; rfl
  |2, _ => rw [h2, e2]; rfl
  |3, _ => rw [h3, e3]; rfl)
theorem qc8 {a : Act} {w : World} {o : Oper} {f : FuncId} {args : Array Value} {R : Ending → World → Prop} {next : Act → World → Prop} {Q : Exit → Act → World → Prop} (h : (execOp a.eval o).run Tryz.prog w = .ok (.enter f args) w) (hc : Calls Tryz.prog f args w R) (k : ∀ e w', R e w' → ∃ v, e = .returned v ∧ next (a.put o.dst v) w') : o.wp Tryz.prog a w next Q := by
 unfold Oper.wp
 rw [h]
 exact hc.mono fun e w' hr => by
  obtain ⟨v, rfl, h⟩ := k e w' hr
  exact h
theorem qfu {e : Operand → Value} {o : Oper} {p q : Operand} {s t : ByteArray} {w : World} (h : o.op = .binOp .add 9 p q 9) (hp : e p = .string s) (hq : e q = .string t) (hl : s.size + t.size ≤ 9223372036854775807) : (execOp e o).run Tryz.prog w = .ok (.value (.string (s ++ t))) w := by
 have hd : (9223372036854775807 < s.size + t.size) = False := by simp; omega
 unfold execOp
 simp [go_sem, h, hp, hq, hd]
theorem qfe (f : Nat) (hf : f < 5) {e : Operand → Value} {o : Oper} {p : Operand} {g : Nat} {w : World} (h : o.op = .fieldAddr 133 p f) (hp : e p = .pointer (some ⟨g, 0, none⟩)) : (execOp e o).run Tryz.prog w = .ok (.value (.pointer (some ⟨g, f, none⟩))) w := by
 have hu := Tryz.underlying133
 have hf' : f = 0 ∨ f = 1 ∨ f = 2 ∨ f = 3 ∨ f = 4 := by omega
 unfold execOp
 rcases hf' with rfl | rfl | rfl | rfl | rfl <;> simp [go_sem, h, hp, hu]
theorem qfd (f : Nat) (hf : f < 5) {e : Operand → Value} {o : Oper} {p : Operand} {g : Nat} {w : World} (h : o.op = .fieldAddr 182 p f) (hp : e p = .pointer (some ⟨g, 0, none⟩)) : (execOp e o).run Tryz.prog w = .ok (.value (.pointer (some ⟨g, f, none⟩))) w := by
 have hu := Tryz.underlying182
 have hf' : f = 0 ∨ f = 1 ∨ f = 2 ∨ f = 3 ∨ f = 4 := by omega
 unfold execOp
 rcases hf' with rfl | rfl | rfl | rfl | rfl <;> simp [go_sem, h, hp, hu]
theorem jg {e : Operand → Value} {o : Oper} {p : Operand} {a : Addr} {w : World} {ty : TypeId} {v : Value} (h : o.op = .load ty p) (hp : e p = .pointer (some a)) (hA : (isAgg ty).run Tryz.prog w = .ok false w) (hc : w.cell? a = some v) : (execOp e o).run Tryz.prog w = .ok (.value v) w := by
 unfold execOp
 simp [go_sem, h, hp, hA, hc]
theorem qh4 {e : Operand → Value} {o : Oper} {p : Operand} {m : Int} {w : World} (h : o.op = .convert 3 5 p) (hp : e p = .int .i64 m) : (execOp e o).run Tryz.prog w = .ok (.value (.int .u8 (IntKind.u8.wrap m))) w := by
 have hu := Tryz.underlying3
 have hu2 := Tryz.underlying5
 unfold execOp
 simp [go_sem, h, hp, hu, hu2]
theorem qpg {e : Operand → Value} {o : Oper} {p : Operand} {a b : TypeId} {v v' : Value} {w : World} (h : o.op = .convert a b p) (hp : e p = v) (hc : (convert a b v).run Tryz.prog w = .ok v' w) : (execOp e o).run Tryz.prog w = .ok (.value v') w := by
 unfold execOp
 simp [go_sem, h, hp, hc]
theorem qkk {e : Operand → Value} {o : Oper} {p q : Operand} {x y : Int} {w : World} (h : o.op = .buildSlice 139 2 #[(0, p), (1, q)]) (hp : e p = .int .u8 x) (hq : e q = .int .u8 y) : (execOp e o).run Tryz.prog w = .ok (.value (.slice (some ⟨w.heap.size, 0, none⟩) 2 2)) (w.alloc (.cells #[.int .u8 x, .int .u8 y] 5)) := by
 have hu := Tryz.underlying139
 unfold execOp
 simp [go_sem, h, hp, hq, hu]
theorem qcr {a : Act} {o : Oper} {p : Operand} {f : FuncId} {ty : TypeId} {v : Value} {fn : Func} {w : World} (h : o.op = .call { callee := .value (.func f), args := #[p], argTypes := #[ty] }) (hp : a.eval p = v) (hf : Tryz.prog.funcs[f]? = some fn) (hname : (fn.name == "runtime.NumGoroutine") = false) (hb : fn.body.isNone = false) : (execOp a.eval o).run Tryz.prog w = .ok (.enter f #[v]) w := by
 rw [run_call_body h hf hname hb]
 simp [hp]
theorem qsu {e : Operand → Value} {o : Oper} {p : Operand} {v : Value} {w : World} (h : o.op = .assign p) (hp : e p = v) : (execOp e o).run Tryz.prog w = .ok (.value v) w := by
 unfold execOp
 simp [go_sem, h, hp]
theorem q38 (w : World) (x y : Value) (t : TypeId) : (w.alloc (.cells #[x, y] t)).cell? ⟨w.heap.size, 0, none⟩ = some x := by
 rw [show (⟨w.heap.size, 0, none⟩ : Addr) = Addr.mk w.heap.size 0 none from rfl]
 simp [World.cell?_alloc_new]
theorem q39 (w : World) (x y : Value) (t : TypeId) : (w.alloc (.cells #[x, y] t)).cell? ⟨w.heap.size, 1, none⟩ = some y := by
 simp [World.cell?_alloc_new]
theorem qc {n d : Nat} {x : Nat → Value} {v : Value} {o : Oper} (hd : o.dst = some d) : (Act.mk (lay n x) []).put o.dst v = ⟨lay n (upd x d v), []⟩ := by
 rw [hd]
 show Act.mk ((lay n x).setIfInBounds d v) [] = _
 rw [qbl]
noncomputable def pb1 : Array Oper := match Tryz.f75.body with | some (.seq _ (.seq a _)) => rg a | _ => #[]
noncomputable def pbo (k : Nat) : Oper := pb1.getD k ⟨none, .alloc 0, 0, "", #[], none⟩
theorem q17 : qt7 pb1 41 = true := by kernel_rfl
section
variable {bx id n kd sh : Nat} {ld s0 s1 s2 s3 : ByteArray}
def Kpb (bx kd sh id n : Nat) (ld s0 s1 s2 s3 : ByteArray) : Nat → Value → World → Prop
 |0, v, _ => v = .pointer (some ⟨bx, 0, none⟩)
 |1, v, _ => v = .int .u8 kd
 |2, v, _ => v = .pointer (some ⟨bx, 1, none⟩)
 |3, v, _ => v = .int .i64 sh
 |4, v, _ => v = .int .u8 sh
 |5, v, w => ∃ g, v = .slice (some ⟨g, 0, none⟩) 2 2 ∧ w.cell? ⟨g, 0, none⟩ = some (.int .u8 kd) ∧ w.cell? ⟨g, 1, none⟩ = some (.int .u8 sh)
 |6, v, _ => v = .string s0
 |7, v, _ => v = .pointer (some ⟨bx, 2, none⟩)
 |8, v, _ => v = .int .i64 id
 |9, v, _ => v = .string s1
 |10, v, _ => v = .string (s0 ++ s1)
 |11, v, _ => v = .pointer (some ⟨bx, 3, none⟩)
 |12, v, _ => v = .int .i64 n
 |13, v, _ => v = .string s2
 |14, v, _ => v = .string (s0 ++ s1 ++ s2)
 |15, v, _ => v = .pointer (some ⟨bx, 4, none⟩)
 |16, v, _ => v = .string ld
 |17, v, _ => v = .string s3
 |18, v, _ => v = .string (s0 ++ s1 ++ s2 ++ s3)
 |19, v, _ => v = .string (s0 ++ s1 ++ s2 ++ s3)
 |_, _, _ => True
theorem qtb (j : Nat) (v : Value) (w w' : World) (hb : Below w.heap.size w w') (h : Kpb bx kd sh id n ld s0 s1 s2 s3 j v w) : Kpb bx kd sh id n ld s0 s1 s2 s3 j v w' := by
 match j, h with
 |5, h =>
  obtain ⟨g, h1, h2, h3⟩ := h
  have lt : g < w.heap.size := xbl w _ h2
  exact ⟨g, h1, (hb.cell (p := ⟨g, 0, none⟩) lt).trans h2, (hb.cell (p := ⟨g, 1, none⟩) lt).trans h3⟩
 |0, h => exact h
 |1, h => exact h
 |2, h => exact h
 |3, h => exact h
 |4, h => exact h
 |6, h => exact h
 |7, h => exact h
 |8, h => exact h
 |9, h => exact h
 |10, h => exact h
 |11, h => exact h
 |12, h => exact h
 |13, h => exact h
 |14, h => exact h
 |15, h => exact h
 |16, h => exact h
 |17, h => exact h
 |18, h => exact h
 |19, h => exact h
 |k + 20, _ => trivial
theorem jbh {w : World} {a : Act} {Q : Exit → Act → World → Prop} (hsz : a.tmps.size = 41) (hdf : a.defers = []) (h1 : a.tmps.getD 1 undef = .pointer (some ⟨bx, 0, none⟩)) (c0 : w.cell? ⟨bx, 0, none⟩ = some (.int .u8 kd)) (c1 : w.cell? ⟨bx, 1, none⟩ = some (.int .i64 sh)) (c2 : w.cell? ⟨bx, 2, none⟩ = some (.int .i64 id)) (c3 : w.cell? ⟨bx, 3, none⟩ = some (.int .i64 n)) (c4 : w.cell? ⟨bx, 4, none⟩ = some (.string ld))
  (hkd : kd < 256) (hsh : sh < 256) (e0 : s0 = ⟨#[b8 kd, b8 sh]⟩) (l1 : s1.size ≤ 9) (l2 : s2.size ≤ 9) (l3 : s3.size ≤ 1048585)
  (C1 : ∀ W : World, Calls Tryz.prog 113 #[.int .i64 id] W fun e w' => e = .returned (.string s1) ∧ Below W.heap.size W w') (C2 : ∀ W : World, Calls Tryz.prog 113 #[.int .i64 n] W fun e w' => e = .returned (.string s2) ∧ Below W.heap.size W w') (C3 : ∀ W : World, Calls Tryz.prog 114 #[.string ld] W fun e w' => e = .returned (.string s3) ∧ Below W.heap.size W w')
  (hQ : ∀ y w', (∀ s, (∀ (j : Nat) o, pb1[j]? = some o → o.dst ≠ some s) → y s = a.tmps.getD s undef) → y 3 = .string (s0 ++ s1 ++ s2 ++ s3) → Below w.heap.size w w' → Q .normal ⟨lay 41 y, []⟩ w') : (Code.region 1 pb1 true).wp Tryz.prog Q a w := by
 have l0 : s0.size = 2 := by rw [e0]; rfl
 have lt : bx < w.heap.size := xbl w _ c0
 have hst := Tryz.underlying133
 refine qd7 (n := 41) (x0 := fun s => a.tmps.getD s undef) (w0 := w.drew) (KN := Kpb bx kd sh id n ld s0 s1 s2 s3) (by kernel_rfl) q17 ⟨_, ?_, fun _ => rfl⟩ rfl qtb ?_ ?_
 ·obtain ⟨t, df⟩ := a
  obtain rfl : df = [] := hdf
  rw [qel hsz]
 ·intro j o d x w1 ho hd hx qz hb
  have hbc : ∀ f, w1.cell? ⟨bx, f, none⟩ = w.cell? ⟨bx, f, none⟩ := fun f => hb.cell (p := ⟨bx, f, none⟩) lt
  have x1 : x 1 = .pointer (some ⟨bx, 0, none⟩) := (hx 1 (qcy (by kernel_rfl))).trans h1
  match j, ho with
  |0, ho =>
   obtain rfl := qw (a := pbo 0) rfl ho
   obtain rfl := qw (a := 5) rfl hd
   have e1 : (Act.mk (lay 41 x) []).eval (.tmp 1) = .pointer (some ⟨bx, 0, none⟩) := tmp (by decide) x1
   exact qh (qfe 0 (by decide) rfl e1) ⟨_, qc rfl, rfl, jo _ _⟩
  |1, ho =>
   obtain rfl := qw (a := pbo 1) rfl ho
   obtain rfl := qw (a := 6) rfl hd
   have k0 : x 5 = .pointer (some ⟨bx, 0, none⟩) := qz 0 (pbo 0) 5 rfl rfl (qg rfl)
   have e1 : (Act.mk (lay 41 x) []).eval (.tmp 5) = .pointer (some ⟨bx, 0, none⟩) := tmp (by decide) k0
   have hu := Tryz.underlying131
   have hc := (hbc 0).trans c0
   exact qh (jg (ty := 131) rfl e1 (by simp [isAgg, hu]) hc) ⟨_, qc rfl, rfl, jo _ _⟩
  |2, ho =>
   obtain rfl := qw (a := pbo 2) rfl ho
   obtain rfl := qw (a := 7) rfl hd
   have e1 : (Act.mk (lay 41 x) []).eval (.tmp 1) = .pointer (some ⟨bx, 0, none⟩) := tmp (by decide) x1
   exact qh (qfe 1 (by decide) rfl e1) ⟨_, qc rfl, rfl, jo _ _⟩
  |3, ho =>
   obtain rfl := qw (a := pbo 3) rfl ho
   obtain rfl := qw (a := 8) rfl hd
   have k2 : x 7 = .pointer (some ⟨bx, 1, none⟩) := qz 2 (pbo 2) 7 rfl rfl (qg rfl)
   have e1 : (Act.mk (lay 41 x) []).eval (.tmp 7) = .pointer (some ⟨bx, 1, none⟩) := tmp (by decide) k2
   have hu := Tryz.underlying3
   have hc := (hbc 1).trans c1
   exact qh (jg (ty := 3) rfl e1 (by simp [isAgg, hu]) hc) ⟨_, qc rfl, rfl, jo _ _⟩
  |4, ho =>
   obtain rfl := qw (a := pbo 4) rfl ho
   obtain rfl := qw (a := 9) rfl hd
   have k3 : x 8 = .int .i64 sh := qz 3 (pbo 3) 8 rfl rfl (qg rfl)
   have e1 : (Act.mk (lay 41 x) []).eval (.tmp 8) = .int .i64 sh := tmp (by decide) k3
   have hw8 : IntKind.u8.wrap (sh : Int) = (sh : Int) := by rw [IntKind.wrap_u8']; omega
   have hr := qh4 (o := pbo 4) (w := w1) rfl e1
   rw [hw8] at hr
   exact qh hr ⟨_, qc rfl, rfl, jo _ _⟩
  |5, ho =>
   obtain rfl := qw (a := pbo 5) rfl ho
   obtain rfl := qw (a := 10) rfl hd
   have k1 : x 6 = .int .u8 kd := qz 1 (pbo 1) 6 rfl rfl (qg rfl)
   have k4 : x 9 = .int .u8 sh := qz 4 (pbo 4) 9 rfl rfl (qg rfl)
   have e1 : (Act.mk (lay 41 x) []).eval (.tmp 6) = .int .u8 kd := tmp (by decide) k1
   have e2 : (Act.mk (lay 41 x) []).eval (.tmp 9) = .int .u8 sh := tmp (by decide) k4
   have hr := qkk (o := pbo 5) (w := w1) rfl e1 e2
   exact qh hr ⟨_, qc rfl, ⟨w1.heap.size, rfl, q38 _ _ _ _, q39 _ _ _ _⟩, (jo _ _).alloc (jy _) _⟩
  |6, ho =>
   obtain rfl := qw (a := pbo 6) rfl ho
   obtain rfl := qw (a := 11) rfl hd
   obtain ⟨g, k5, q0, q1⟩ : Kpb bx kd sh id n ld s0 s1 s2 s3 5 (x 10) w1 := qz 5 (pbo 5) 10 rfl rfl (qg rfl)
   have e1 : (Act.mk (lay 41 x) []).eval (.tmp 10) = .slice (some ⟨g, 0, none⟩) 2 2 := tmp (by decide) k5
   have hc := q3t w1 g kd sh (b8 kd) (b8 sh) (by rw [qce hkd]) (by rw [qce hsh]) q0 q1
   rw [← e0] at hc
   exact qh (qpg rfl e1 hc) ⟨_, qc rfl, rfl, jo _ _⟩
  |7, ho =>
   obtain rfl := qw (a := pbo 7) rfl ho
   obtain rfl := qw (a := 12) rfl hd
   have e1 : (Act.mk (lay 41 x) []).eval (.tmp 1) = .pointer (some ⟨bx, 0, none⟩) := tmp (by decide) x1
   exact qh (qfe 2 (by decide) rfl e1) ⟨_, qc rfl, rfl, jo _ _⟩
  |8, ho =>
   obtain rfl := qw (a := pbo 8) rfl ho
   obtain rfl := qw (a := 13) rfl hd
   have k7 : x 12 = .pointer (some ⟨bx, 2, none⟩) := qz 7 (pbo 7) 12 rfl rfl (qg rfl)
   have e1 : (Act.mk (lay 41 x) []).eval (.tmp 12) = .pointer (some ⟨bx, 2, none⟩) := tmp (by decide) k7
   have hu := Tryz.underlying3
   have hc := (hbc 2).trans c2
   exact qh (jg (ty := 3) rfl e1 (by simp [isAgg, hu]) hc) ⟨_, qc rfl, rfl, jo _ _⟩
  |9, ho =>
   obtain rfl := qw (a := pbo 9) rfl ho
   obtain rfl := qw (a := 14) rfl hd
   have k8 : x 13 = .int .i64 id := qz 8 (pbo 8) 13 rfl rfl (qg rfl)
   have e1 : (Act.mk (lay 41 x) []).eval (.tmp 13) = .int .i64 id := tmp (by decide) k8
   have hr := qcr (o := pbo 9) (w := w1) rfl e1 Tryz.func113 (by kernel_rfl) (by kernel_rfl)
   refine qc8 hr (C1 w1) fun e w2 h => ⟨_, h.1, _, qc rfl, rfl, h.2⟩
  |10, ho =>
   obtain rfl := qw (a := pbo 10) rfl ho
   obtain rfl := qw (a := 15) rfl hd
   have k6 : x 11 = .string s0 := qz 6 (pbo 6) 11 rfl rfl (qg rfl)
   have k9 : x 14 = .string s1 := qz 9 (pbo 9) 14 rfl rfl (qg rfl)
   exact qh (qfu rfl (qp k6) (qp k9) (by omega)) ⟨_, qc rfl, rfl, jo _ _⟩
  |11, ho =>
   obtain rfl := qw (a := pbo 11) rfl ho
   obtain rfl := qw (a := 16) rfl hd
   have e1 : (Act.mk (lay 41 x) []).eval (.tmp 1) = .pointer (some ⟨bx, 0, none⟩) := tmp (by decide) x1
   exact qh (qfe 3 (by decide) rfl e1) ⟨_, qc rfl, rfl, jo _ _⟩
  |12, ho =>
   obtain rfl := qw (a := pbo 12) rfl ho
   obtain rfl := qw (a := 17) rfl hd
   have k11 : x 16 = .pointer (some ⟨bx, 3, none⟩) := qz 11 (pbo 11) 16 rfl rfl (qg rfl)
   have e1 : (Act.mk (lay 41 x) []).eval (.tmp 16) = .pointer (some ⟨bx, 3, none⟩) := tmp (by decide) k11
   have hu := Tryz.underlying3
   have hc := (hbc 3).trans c3
   exact qh (jg (ty := 3) rfl e1 (by simp [isAgg, hu]) hc) ⟨_, qc rfl, rfl, jo _ _⟩
  |13, ho =>
   obtain rfl := qw (a := pbo 13) rfl ho
   obtain rfl := qw (a := 18) rfl hd
   have k12 : x 17 = .int .i64 n := qz 12 (pbo 12) 17 rfl rfl (qg rfl)
   have e1 : (Act.mk (lay 41 x) []).eval (.tmp 17) = .int .i64 n := tmp (by decide) k12
   have hr := qcr (o := pbo 13) (w := w1) rfl e1 Tryz.func113 (by kernel_rfl) (by kernel_rfl)
   refine qc8 hr (C2 w1) fun e w2 h => ⟨_, h.1, _, qc rfl, rfl, h.2⟩
  |14, ho =>
   obtain rfl := qw (a := pbo 14) rfl ho
   obtain rfl := qw (a := 19) rfl hd
   have k10 : x 15 = .string (s0 ++ s1) := qz 10 (pbo 10) 15 rfl rfl (qg rfl)
   have k13 : x 18 = .string s2 := qz 13 (pbo 13) 18 rfl rfl (qg rfl)
   exact qh (qfu rfl (qp k10) (qp k13) (by simp only [ByteArray.size_append]; omega)) ⟨_, qc rfl, rfl, jo _ _⟩
  |15, ho =>
   obtain rfl := qw (a := pbo 15) rfl ho
   obtain rfl := qw (a := 20) rfl hd
   have e1 : (Act.mk (lay 41 x) []).eval (.tmp 1) = .pointer (some ⟨bx, 0, none⟩) := tmp (by decide) x1
   exact qh (qfe 4 (by decide) rfl e1) ⟨_, qc rfl, rfl, jo _ _⟩
  |16, ho =>
   obtain rfl := qw (a := pbo 16) rfl ho
   obtain rfl := qw (a := 21) rfl hd
   have k15 : x 20 = .pointer (some ⟨bx, 4, none⟩) := qz 15 (pbo 15) 20 rfl rfl (qg rfl)
   have e1 : (Act.mk (lay 41 x) []).eval (.tmp 20) = .pointer (some ⟨bx, 4, none⟩) := tmp (by decide) k15
   have hu := Tryz.underlying9
   have hc := (hbc 4).trans c4
   exact qh (jg (ty := 9) rfl e1 (by simp [isAgg, hu]) hc) ⟨_, qc rfl, rfl, jo _ _⟩
  |17, ho =>
   obtain rfl := qw (a := pbo 17) rfl ho
   obtain rfl := qw (a := 22) rfl hd
   have k16 : x 21 = .string ld := qz 16 (pbo 16) 21 rfl rfl (qg rfl)
   have e1 : (Act.mk (lay 41 x) []).eval (.tmp 21) = .string ld := tmp (by decide) k16
   have hr := qcr (o := pbo 17) (w := w1) rfl e1 Tryz.func114 (by kernel_rfl) (by kernel_rfl)
   refine qc8 hr (C3 w1) fun e w2 h => ⟨_, h.1, _, qc rfl, rfl, h.2⟩
  |18, ho =>
   obtain rfl := qw (a := pbo 18) rfl ho
   obtain rfl := qw (a := 23) rfl hd
   have k14 : x 19 = .string (s0 ++ s1 ++ s2) := qz 14 (pbo 14) 19 rfl rfl (qg rfl)
   have k17 : x 22 = .string s3 := qz 17 (pbo 17) 22 rfl rfl (qg rfl)
   exact qh (qfu rfl (qp k14) (qp k17) (by simp only [ByteArray.size_append]; omega)) ⟨_, qc rfl, rfl, jo _ _⟩
  |19, ho =>
   obtain rfl := qw (a := pbo 19) rfl ho
   obtain rfl := qw (a := 3) rfl hd
   have k18 : x 23 = .string (s0 ++ s1 ++ s2 ++ s3) := qz 18 (pbo 18) 23 rfl rfl (qg rfl)
   exact qh (qsu rfl (qp k18)) ⟨_, qc rfl, rfl, jo _ _⟩
  |k + 20, ho => exact absurd ho (by rw [Array.getElem?_eq_none (show pb1.size ≤ k + 20 by show 20 ≤ k + 20; omega)]; exact fun e => by cases e)
 ·intro y w1 hy hk hb
  exact hQ y w1 hy (hk 19 (pbo 19) 3 rfl rfl) (Below.trans (b := w.drew) ⟨rfl, rfl, rfl, jy _, fun _ _ => rfl⟩ hb)
end
noncomputable def db1 : Array Oper := match Tryz.f100.body with | some (.seq _ (.seq a _)) => rg a | _ => #[]
noncomputable def dbo (k : Nat) : Oper := db1.getD k ⟨none, .alloc 0, 0, "", #[], none⟩
theorem q0y : qt7 db1 42 = true := by kernel_rfl
section
variable {bx id n kd sh : Nat} {ld s0 s1 s2 s3 : ByteArray}
def Kdb (bx kd sh id n : Nat) (ld s0 s1 s2 s3 : ByteArray) : Nat → Value → World → Prop
 |0, v, _ => v = .pointer (some ⟨bx, 0, none⟩)
 |1, v, _ => v = .int .i64 kd
 |2, v, _ => v = .int .u8 kd
 |3, v, _ => v = .pointer (some ⟨bx, 1, none⟩)
 |4, v, _ => v = .int .i64 sh
 |5, v, _ => v = .int .u8 sh
 |6, v, w => ∃ g, v = .slice (some ⟨g, 0, none⟩) 2 2 ∧ w.cell? ⟨g, 0, none⟩ = some (.int .u8 kd) ∧ w.cell? ⟨g, 1, none⟩ = some (.int .u8 sh)
 |7, v, _ => v = .string s0
 |8, v, _ => v = .pointer (some ⟨bx, 2, none⟩)
 |9, v, _ => v = .int .i64 id
 |10, v, _ => v = .string s1
 |11, v, _ => v = .string (s0 ++ s1)
 |12, v, _ => v = .pointer (some ⟨bx, 3, none⟩)
 |13, v, _ => v = .int .i64 n
 |14, v, _ => v = .string s2
 |15, v, _ => v = .string (s0 ++ s1 ++ s2)
 |16, v, _ => v = .pointer (some ⟨bx, 4, none⟩)
 |17, v, _ => v = .string ld
 |18, v, _ => v = .string s3
 |19, v, _ => v = .string (s0 ++ s1 ++ s2 ++ s3)
 |20, v, _ => v = .string (s0 ++ s1 ++ s2 ++ s3)
 |_, _, _ => True
theorem qs9 (j : Nat) (v : Value) (w w' : World) (hb : Below w.heap.size w w') (h : Kdb bx kd sh id n ld s0 s1 s2 s3 j v w) : Kdb bx kd sh id n ld s0 s1 s2 s3 j v w' := by
 match j, h with
 |6, h =>
  obtain ⟨g, h1, h2, h3⟩ := h
  have lt : g < w.heap.size := xbl w _ h2
  exact ⟨g, h1, (hb.cell (p := ⟨g, 0, none⟩) lt).trans h2, (hb.cell (p := ⟨g, 1, none⟩) lt).trans h3⟩
 |0, h => exact h
 |1, h => exact h
 |2, h => exact h
 |3, h => exact h
 |4, h => exact h
 |5, h => exact h
 |7, h => exact h
 |8, h => exact h
 |9, h => exact h
 |10, h => exact h
 |11, h => exact h
 |12, h => exact h
 |13, h => exact h
 |14, h => exact h
 |15, h => exact h
 |16, h => exact h
 |17, h => exact h
 |18, h => exact h
 |19, h => exact h
 |20, h => exact h
 |k + 21, _ => trivial
theorem q8z {w : World} {a : Act} {Q : Exit → Act → World → Prop} (hsz : a.tmps.size = 42) (hdf : a.defers = []) (h1 : a.tmps.getD 1 undef = .pointer (some ⟨bx, 0, none⟩)) (c0 : w.cell? ⟨bx, 0, none⟩ = some (.int .i64 kd)) (c1 : w.cell? ⟨bx, 1, none⟩ = some (.int .i64 sh)) (c2 : w.cell? ⟨bx, 2, none⟩ = some (.int .i64 id)) (c3 : w.cell? ⟨bx, 3, none⟩ = some (.int .i64 n)) (c4 : w.cell? ⟨bx, 4, none⟩ = some (.string ld))
  (hkd : kd < 256) (hsh : sh < 256) (e0 : s0 = ⟨#[b8 kd, b8 sh]⟩) (l1 : s1.size ≤ 9) (l2 : s2.size ≤ 9) (l3 : s3.size ≤ 1048585)
  (C1 : ∀ W : World, Calls Tryz.prog 97 #[.int .i64 id] W fun e w' => e = .returned (.string s1) ∧ Below W.heap.size W w') (C2 : ∀ W : World, Calls Tryz.prog 97 #[.int .i64 n] W fun e w' => e = .returned (.string s2) ∧ Below W.heap.size W w') (C3 : ∀ W : World, Calls Tryz.prog 98 #[.string ld] W fun e w' => e = .returned (.string s3) ∧ Below W.heap.size W w')
  (hQ : ∀ y w', (∀ s, (∀ (j : Nat) o, db1[j]? = some o → o.dst ≠ some s) → y s = a.tmps.getD s undef) → y 3 = .string (s0 ++ s1 ++ s2 ++ s3) → Below w.heap.size w w' → Q .normal ⟨lay 42 y, []⟩ w') : (Code.region 1 db1 true).wp Tryz.prog Q a w := by
 have l0 : s0.size = 2 := by rw [e0]; rfl
 have lt : bx < w.heap.size := xbl w _ c0
 have hst := Tryz.underlying182
 refine qd7 (n := 42) (x0 := fun s => a.tmps.getD s undef) (w0 := w.drew) (KN := Kdb bx kd sh id n ld s0 s1 s2 s3) (by kernel_rfl) q0y ⟨_, ?_, fun _ => rfl⟩ rfl qs9 ?_ ?_
 ·obtain ⟨t, df⟩ := a
  obtain rfl : df = [] := hdf
  rw [qel hsz]
 ·intro j o d x w1 ho hd hx qz hb
  have hbc : ∀ f, w1.cell? ⟨bx, f, none⟩ = w.cell? ⟨bx, f, none⟩ := fun f => hb.cell (p := ⟨bx, f, none⟩) lt
  have x1 : x 1 = .pointer (some ⟨bx, 0, none⟩) := (hx 1 (qcy (by kernel_rfl))).trans h1
  match j, ho with
  |0, ho =>
   obtain rfl := qw (a := dbo 0) rfl ho
   obtain rfl := qw (a := 5) rfl hd
   have e1 : (Act.mk (lay 42 x) []).eval (.tmp 1) = .pointer (some ⟨bx, 0, none⟩) := tmp (by decide) x1
   exact qh (qfd 0 (by decide) rfl e1) ⟨_, qc rfl, rfl, jo _ _⟩
  |1, ho =>
   obtain rfl := qw (a := dbo 1) rfl ho
   obtain rfl := qw (a := 6) rfl hd
   have k0 : x 5 = .pointer (some ⟨bx, 0, none⟩) := qz 0 (dbo 0) 5 rfl rfl (qg rfl)
   have e1 : (Act.mk (lay 42 x) []).eval (.tmp 5) = .pointer (some ⟨bx, 0, none⟩) := tmp (by decide) k0
   have hu := Tryz.underlying3
   have hc := (hbc 0).trans c0
   exact qh (jg (ty := 3) rfl e1 (by simp [isAgg, hu]) hc) ⟨_, qc rfl, rfl, jo _ _⟩
  |2, ho =>
   obtain rfl := qw (a := dbo 2) rfl ho
   obtain rfl := qw (a := 7) rfl hd
   have k1 : x 6 = .int .i64 kd := qz 1 (dbo 1) 6 rfl rfl (qg rfl)
   have e1 : (Act.mk (lay 42 x) []).eval (.tmp 6) = .int .i64 kd := tmp (by decide) k1
   have hw8 : IntKind.u8.wrap (kd : Int) = (kd : Int) := by rw [IntKind.wrap_u8']; omega
   have hr := qh4 (o := dbo 2) (w := w1) rfl e1
   rw [hw8] at hr
   exact qh hr ⟨_, qc rfl, rfl, jo _ _⟩
  |3, ho =>
   obtain rfl := qw (a := dbo 3) rfl ho
   obtain rfl := qw (a := 8) rfl hd
   have e1 : (Act.mk (lay 42 x) []).eval (.tmp 1) = .pointer (some ⟨bx, 0, none⟩) := tmp (by decide) x1
   exact qh (qfd 1 (by decide) rfl e1) ⟨_, qc rfl, rfl, jo _ _⟩
  |4, ho =>
   obtain rfl := qw (a := dbo 4) rfl ho
   obtain rfl := qw (a := 9) rfl hd
   have k3 : x 8 = .pointer (some ⟨bx, 1, none⟩) := qz 3 (dbo 3) 8 rfl rfl (qg rfl)
   have e1 : (Act.mk (lay 42 x) []).eval (.tmp 8) = .pointer (some ⟨bx, 1, none⟩) := tmp (by decide) k3
   have hu := Tryz.underlying3
   have hc := (hbc 1).trans c1
   exact qh (jg (ty := 3) rfl e1 (by simp [isAgg, hu]) hc) ⟨_, qc rfl, rfl, jo _ _⟩
  |5, ho =>
   obtain rfl := qw (a := dbo 5) rfl ho
   obtain rfl := qw (a := 10) rfl hd
   have k4 : x 9 = .int .i64 sh := qz 4 (dbo 4) 9 rfl rfl (qg rfl)
   have e1 : (Act.mk (lay 42 x) []).eval (.tmp 9) = .int .i64 sh := tmp (by decide) k4
   have hw8 : IntKind.u8.wrap (sh : Int) = (sh : Int) := by rw [IntKind.wrap_u8']; omega
   have hr := qh4 (o := dbo 5) (w := w1) rfl e1
   rw [hw8] at hr
   exact qh hr ⟨_, qc rfl, rfl, jo _ _⟩
  |6, ho =>
   obtain rfl := qw (a := dbo 6) rfl ho
   obtain rfl := qw (a := 11) rfl hd
   have k2 : x 7 = .int .u8 kd := qz 2 (dbo 2) 7 rfl rfl (qg rfl)
   have k5 : x 10 = .int .u8 sh := qz 5 (dbo 5) 10 rfl rfl (qg rfl)
   have e1 : (Act.mk (lay 42 x) []).eval (.tmp 7) = .int .u8 kd := tmp (by decide) k2
   have e2 : (Act.mk (lay 42 x) []).eval (.tmp 10) = .int .u8 sh := tmp (by decide) k5
   have hr := qkk (o := dbo 6) (w := w1) rfl e1 e2
   exact qh hr ⟨_, qc rfl, ⟨w1.heap.size, rfl, q38 _ _ _ _, q39 _ _ _ _⟩, (jo _ _).alloc (jy _) _⟩
  |7, ho =>
   obtain rfl := qw (a := dbo 7) rfl ho
   obtain rfl := qw (a := 12) rfl hd
   obtain ⟨g, k6, q0, q1⟩ : Kdb bx kd sh id n ld s0 s1 s2 s3 6 (x 11) w1 := qz 6 (dbo 6) 11 rfl rfl (qg rfl)
   have e1 : (Act.mk (lay 42 x) []).eval (.tmp 11) = .slice (some ⟨g, 0, none⟩) 2 2 := tmp (by decide) k6
   have hc := q3t w1 g kd sh (b8 kd) (b8 sh) (by rw [qce hkd]) (by rw [qce hsh]) q0 q1
   rw [← e0] at hc
   exact qh (qpg rfl e1 hc) ⟨_, qc rfl, rfl, jo _ _⟩
  |8, ho =>
   obtain rfl := qw (a := dbo 8) rfl ho
   obtain rfl := qw (a := 13) rfl hd
   have e1 : (Act.mk (lay 42 x) []).eval (.tmp 1) = .pointer (some ⟨bx, 0, none⟩) := tmp (by decide) x1
   exact qh (qfd 2 (by decide) rfl e1) ⟨_, qc rfl, rfl, jo _ _⟩
  |9, ho =>
   obtain rfl := qw (a := dbo 9) rfl ho
   obtain rfl := qw (a := 14) rfl hd
   have k8 : x 13 = .pointer (some ⟨bx, 2, none⟩) := qz 8 (dbo 8) 13 rfl rfl (qg rfl)
   have e1 : (Act.mk (lay 42 x) []).eval (.tmp 13) = .pointer (some ⟨bx, 2, none⟩) := tmp (by decide) k8
   have hu := Tryz.underlying3
   have hc := (hbc 2).trans c2
   exact qh (jg (ty := 3) rfl e1 (by simp [isAgg, hu]) hc) ⟨_, qc rfl, rfl, jo _ _⟩
  |10, ho =>
   obtain rfl := qw (a := dbo 10) rfl ho
   obtain rfl := qw (a := 15) rfl hd
   have k9 : x 14 = .int .i64 id := qz 9 (dbo 9) 14 rfl rfl (qg rfl)
   have e1 : (Act.mk (lay 42 x) []).eval (.tmp 14) = .int .i64 id := tmp (by decide) k9
   have hr := qcr (o := dbo 10) (w := w1) rfl e1 Tryz.func97 (by kernel_rfl) (by kernel_rfl)
   refine qc8 hr (C1 w1) fun e w2 h => ⟨_, h.1, _, qc rfl, rfl, h.2⟩
  |11, ho =>
   obtain rfl := qw (a := dbo 11) rfl ho
   obtain rfl := qw (a := 16) rfl hd
   have k7 : x 12 = .string s0 := qz 7 (dbo 7) 12 rfl rfl (qg rfl)
   have k10 : x 15 = .string s1 := qz 10 (dbo 10) 15 rfl rfl (qg rfl)
   exact qh (qfu rfl (qp k7) (qp k10) (by omega)) ⟨_, qc rfl, rfl, jo _ _⟩
  |12, ho =>
   obtain rfl := qw (a := dbo 12) rfl ho
   obtain rfl := qw (a := 17) rfl hd
   have e1 : (Act.mk (lay 42 x) []).eval (.tmp 1) = .pointer (some ⟨bx, 0, none⟩) := tmp (by decide) x1
   exact qh (qfd 3 (by decide) rfl e1) ⟨_, qc rfl, rfl, jo _ _⟩
  |13, ho =>
   obtain rfl := qw (a := dbo 13) rfl ho
   obtain rfl := qw (a := 18) rfl hd
   have k12 : x 17 = .pointer (some ⟨bx, 3, none⟩) := qz 12 (dbo 12) 17 rfl rfl (qg rfl)
   have e1 : (Act.mk (lay 42 x) []).eval (.tmp 17) = .pointer (some ⟨bx, 3, none⟩) := tmp (by decide) k12
   have hu := Tryz.underlying3
   have hc := (hbc 3).trans c3
   exact qh (jg (ty := 3) rfl e1 (by simp [isAgg, hu]) hc) ⟨_, qc rfl, rfl, jo _ _⟩
  |14, ho =>
   obtain rfl := qw (a := dbo 14) rfl ho
   obtain rfl := qw (a := 19) rfl hd
   have k13 : x 18 = .int .i64 n := qz 13 (dbo 13) 18 rfl rfl (qg rfl)
   have e1 : (Act.mk (lay 42 x) []).eval (.tmp 18) = .int .i64 n := tmp (by decide) k13
   have hr := qcr (o := dbo 14) (w := w1) rfl e1 Tryz.func97 (by kernel_rfl) (by kernel_rfl)
   refine qc8 hr (C2 w1) fun e w2 h => ⟨_, h.1, _, qc rfl, rfl, h.2⟩
  |15, ho =>
   obtain rfl := qw (a := dbo 15) rfl ho
   obtain rfl := qw (a := 20) rfl hd
   have k11 : x 16 = .string (s0 ++ s1) := qz 11 (dbo 11) 16 rfl rfl (qg rfl)
   have k14 : x 19 = .string s2 := qz 14 (dbo 14) 19 rfl rfl (qg rfl)
   exact qh (qfu rfl (qp k11) (qp k14) (by simp only [ByteArray.size_append]; omega)) ⟨_, qc rfl, rfl, jo _ _⟩
  |16, ho =>
   obtain rfl := qw (a := dbo 16) rfl ho
   obtain rfl := qw (a := 21) rfl hd
   have e1 : (Act.mk (lay 42 x) []).eval (.tmp 1) = .pointer (some ⟨bx, 0, none⟩) := tmp (by decide) x1
   exact qh (qfd 4 (by decide) rfl e1) ⟨_, qc rfl, rfl, jo _ _⟩
  |17, ho =>
   obtain rfl := qw (a := dbo 17) rfl ho
   obtain rfl := qw (a := 22) rfl hd
   have k16 : x 21 = .pointer (some ⟨bx, 4, none⟩) := qz 16 (dbo 16) 21 rfl rfl (qg rfl)
   have e1 : (Act.mk (lay 42 x) []).eval (.tmp 21) = .pointer (some ⟨bx, 4, none⟩) := tmp (by decide) k16
   have hu := Tryz.underlying9
   have hc := (hbc 4).trans c4
   exact qh (jg (ty := 9) rfl e1 (by simp [isAgg, hu]) hc) ⟨_, qc rfl, rfl, jo _ _⟩
  |18, ho =>
   obtain rfl := qw (a := dbo 18) rfl ho
   obtain rfl := qw (a := 23) rfl hd
   have k17 : x 22 = .string ld := qz 17 (dbo 17) 22 rfl rfl (qg rfl)
   have e1 : (Act.mk (lay 42 x) []).eval (.tmp 22) = .string ld := tmp (by decide) k17
   have hr := qcr (o := dbo 18) (w := w1) rfl e1 Tryz.func98 (by kernel_rfl) (by kernel_rfl)
   refine qc8 hr (C3 w1) fun e w2 h => ⟨_, h.1, _, qc rfl, rfl, h.2⟩
  |19, ho =>
   obtain rfl := qw (a := dbo 19) rfl ho
   obtain rfl := qw (a := 24) rfl hd
   have k15 : x 20 = .string (s0 ++ s1 ++ s2) := qz 15 (dbo 15) 20 rfl rfl (qg rfl)
   have k18 : x 23 = .string s3 := qz 18 (dbo 18) 23 rfl rfl (qg rfl)
   exact qh (qfu rfl (qp k15) (qp k18) (by simp only [ByteArray.size_append]; omega)) ⟨_, qc rfl, rfl, jo _ _⟩
  |20, ho =>
   obtain rfl := qw (a := dbo 20) rfl ho
   obtain rfl := qw (a := 3) rfl hd
   have k19 : x 24 = .string (s0 ++ s1 ++ s2 ++ s3) := qz 19 (dbo 19) 24 rfl rfl (qg rfl)
   exact qh (qsu rfl (qp k19)) ⟨_, qc rfl, rfl, jo _ _⟩
  |k + 21, ho => exact absurd ho (by rw [Array.getElem?_eq_none (show db1.size ≤ k + 21 by show 21 ≤ k + 21; omega)]; exact fun e => by cases e)
 ·intro y w1 hy hk hb
  exact hQ y w1 hy (hk 20 (dbo 20) 3 rfl rfl) (Below.trans (b := w.drew) ⟨rfl, rfl, rfl, jy _, fun _ _ => rfl⟩ hb)
end
section
variable {e : Operand → Value} {o : Oper} {p q : Operand} {v : Value} {g f k : Nat} {w : World}
theorem run_move (h : o.op = .move p) (hp : e p = v) : (execOp e o).run Tryz.prog w = .ok (.value v) w := by
 unfold execOp
 simp [go_sem, h, hp]
theorem ve {a : Addr} (h : o.op = .nilCheck p) (hp : e p = .pointer (some a)) : (execOp e o).run Tryz.prog w = .ok (.value (.pointer (some a))) w := by
 unfold execOp
 simp [go_sem, h, hp]
theorem qcd (f : Nat) (hf : f < 3) (h : o.op = .fieldAddr 80 p f) (hp : e p = .pointer (some ⟨g, k, none⟩)) : (execOp e o).run Tryz.prog w = .ok (.value (.pointer (some ⟨g, k + f, none⟩))) w := by
 have hu := Tryz.underlying80
 have hf' : f = 0 ∨ f = 1 ∨ f = 2 := by omega
 have hadd : ∀ j, (⟨g, k, none⟩ : Addr).add j = ⟨g, k + j, none⟩ := fun j => Addr.add_lit ..
 unfold execOp
 rcases hf' with rfl | rfl | rfl <;> simp [go_sem, h, hp, hu, hadd]
theorem qkm (h : o.op = .fieldAddr 135 p 4) (hp : e p = .pointer (some ⟨g, 0, none⟩)) : (execOp e o).run Tryz.prog w = .ok (.value (.pointer (some ⟨g, 4, none⟩))) w := by
 have hu := Tryz.underlying135
 unfold execOp
 simp [go_sem, h, hp, hu]
theorem qum {a b c : Value} (h : o.op = .load 87 p) (hp : e p = .pointer (some ⟨g, 0, none⟩)) (h0 : w.cell? ⟨g, 0, none⟩ = some a) (h1 : w.cell? ⟨g, 1, none⟩ = some b) (h2 : w.cell? ⟨g, 2, none⟩ = some c) : (execOp e o).run Tryz.prog w = .ok (.value (.agg #[a, b, c])) w := by
 have hA := Tryz.isAgg87
 have hS := Tryz.sizeOf87
 unfold execOp
 simp [go_sem, h, hp, hA, hS, h0, h1, h2]
theorem qpe {a b : ByteArray} {c : Bool} (h : o.op = .buildSlice 130 1 #[(0, p)]) (hp : e p = .agg #[.string a, .string b, .bool c]) : (execOp e o).run Tryz.prog w = .ok (.value (.slice (some ⟨w.heap.size, 0, none⟩) 1 1)) (w.alloc (.cells #[.string a, .string b, .bool c] 87)) := by
 have hu := Tryz.underlying130
 unfold execOp
 simp [go_sem, h, hp, hu]
end
theorem qqy (y : Nat → Value) : lay 106 y = #[y 0, y 1, y 2, y 3, y 4, y 5, y 6, y 7, y 8, y 9, y 10, y 11, y 12, y 13, y 14, y 15, y 16, y 17, y 18, y 19, y 20, y 21, y 22, y 23, y 24, y 25, y 26, y 27, y 28, y 29, y 30, y 31, y 32, y 33, y 34, y 35, y 36, y 37, y 38, y 39, y 40, y 41, y 42, y 43, y 44, y 45, y 46, y 47, y 48, y 49, y 50, y 51, y 52, y 53, y 54, y 55, y 56, y 57, y 58, y 59, y 60, y 61, y 62, y 63, y 64, y 65, y 66, y 67, y 68, y 69, y 70, y 71, y 72, y 73, y 74, y 75, y 76, y 77, y 78, y 79, y 80, y 81, y 82, y 83, y 84, y 85, y 86, y 87, y 88, y 89, y 90, y 91, y 92, y 93, y 94, y 95, y 96, y 97, y 98, y 99, y 100, y 101, y 102, y 103, y 104, y 105] := rfl
def jco : Code → Code
 | .seq _ b => b
 |c => c
noncomputable def cg1 : Array Oper := match Tryz.f40.body with
 |some (.seq _ (.seq _ (.seq _ (.seq _ (.seq _ (.seq _ (.seq _ (.seq (.seq _ (.cond _ a _)) _)))))))) => rg a
 |_ => #[]
noncomputable def cgo (k : Nat) : Oper := cg1.getD k ⟨none, .alloc 0, 0, "", #[], none⟩
theorem q0p : qha cg1 106 = true := by kernel_rfl
section
variable {cl cb n x mb : Nat} {pv cv : Value} {ld : ByteArray} {m : Mv} {k v : ByteArray} {g : Bool} {w0 : World}
def Kcg (cl n x : Nat) (cv : Value) (m : Mv) (k v : ByteArray) (g : Bool) (w0 : World) : Nat → Value → World → Prop
 |0, u, _ => u = .pointer (some ⟨cl, 1 + n * 3, none⟩)
 |1, u, _ => u = .pointer (some ⟨cl, 1 + n * 3, none⟩)
 |2, u, _ => u = .pointer (some ⟨cl, 1 + n * 3 + 2, none⟩)
 |3, u, _ => u = .pointer (some ⟨x, 0, none⟩)
 |4, u, _ => u = .pointer (some ⟨cl, 1 + n * 3, none⟩)
 |5, u, _ => u = .pointer (some ⟨cl, 1 + n * 3, none⟩)
 |6, u, _ => u = .pointer (some ⟨cl, 1 + n * 3 + 2, none⟩)
 |7, u, _ => u = .pointer (some ⟨x, 0, none⟩)
 |8, u, _ => u = .pointer (some ⟨x, 0, none⟩)
 |9, u, _ => u = .pointer (some ⟨x, 4, none⟩)
 |10, u, _ => u = cv
 |11, u, _ => u = .agg #[.string k, .string v, .bool g]
 |12, u, w => ∃ b, u = .slice (some ⟨b, 0, none⟩) 1 1 ∧ w.heap[b]? = some (.cells #[.string k, .string v, .bool g] 87 (0, 0)) ∧ cv.ownBlock ≠ some b
 |13, u, w => ∃ b cap, u = .slice (some ⟨b, 0, none⟩) (m.cs.length + 1) cap ∧ w.ownsRow 0 87 3 u (m.cs.length + 1) (qer (m.cs ++ [qde k v g])) ∧ (cv.ownBlock = some b ∨ w0.heap.size ≤ b)
 |14, u, _ => u = .pointer (some ⟨x, 0, none⟩)
 |15, u, _ => u = .pointer (some ⟨x, 4, none⟩)
 |_, _, _ => True
theorem qs8 (j : Nat) (u : Value) (w w' : World) (hb : Below w.heap.size w w') (h : Kcg cl n x cv m k v g w0 j u w) : Kcg cl n x cv m k v g w0 j u w' := by
 match j, h with
 |12, ⟨b, h1, h2, h3⟩ => exact ⟨b, h1, (hb.block b (zx h2).1).trans h2, h3⟩
 |13, ⟨b, cap, h1, h2, h3⟩ => exact ⟨b, cap, h1, qj h2 fun q hq => hb.block q (h2.lt q hq).2, h3⟩
 |0, h => exact h
 |1, h => exact h
 |2, h => exact h
 |3, h => exact h
 |4, h => exact h
 |5, h => exact h
 |6, h => exact h
 |7, h => exact h
 |8, h => exact h
 |9, h => exact h
 |10, h => exact h
 |11, h => exact h
 |14, h => exact h
 |15, h => exact h
 |i + 16, _ => trivial
structure Jcg (cl n x cb : Nat) (pv cv : Value) (ld : ByteArray) (m : Mv) (k v : ByteArray) (g : Bool) (w0 : World) (b : Bool) (w : World) : Prop where
 but : But (fun q => cv.ownBlock = some q) w0 w
 row : b = false → qjd w cv m.cs
theorem Jcg.below {b : Bool} {w w' : World} (h : Jcg cl n x cb pv cv ld m k v g w0 b w) (hb : Below w.heap.size w w') : Jcg cl n x cb pv cv ld m k v g w0 b w' :=
 ⟨h.but.trans (But.of_below hb), fun e => (h.row e).block fun q hq => hb.block q (World.ownsRow.lt (h.row e) q hq).2⟩
theorem qp6 {w : World} {a : Act} {Q : Exit → Act → World → Prop} (hsz : a.tmps.size = 106) (hdf : a.defers = []) (h3 : a.tmps.getD 3 undef = .pointer (some ⟨cb, 0, none⟩)) (h7 : a.tmps.getD 7 undef = .pointer (some ⟨cl, 1 + n * 3, none⟩))
  (hx : MX x n pv cv ld m w) (hv : w.cell? ⟨cl, 1 + n * 3 + 2, none⟩ = some (.pointer (some ⟨x, 0, none⟩))) (c0 : w.cell? ⟨cb, 0, none⟩ = some (.string k)) (c1 : w.cell? ⟨cb, 1, none⟩ = some (.string v)) (c2 : w.cell? ⟨cb, 2, none⟩ = some (.bool g))
  (hcl : cv.ownBlock ≠ some cl) (hcb : cv.ownBlock ≠ some cb) (hcs : m.cs.length ≤ 1073741820)
  (hQ : ∀ y w' cv', (∀ s, (∀ (j : Nat) o, cg1[j]? = some o → o.dst ≠ some s) → y s = a.tmps.getD s undef) → MX x n pv cv' ld { m with cs := m.cs ++ [qde k v g] } w' → (∀ b, cv'.ownBlock = some b → cv.ownBlock = some b ∨ w.heap.size ≤ b) → But (fun q => q = x ∨ cv.ownBlock = some q) w w' → Q .normal ⟨lay 106 y, []⟩ w') : (Code.region 16 cg1 true).wp Tryz.prog Q a w := by
 obtain ⟨ci, i1, i2, i3, i4⟩ := q0u
 have hxl := hx.lt
 have hxc : cv.ownBlock ≠ some x := fun e => by
  obtain ⟨cc, hc⟩ := jq hx.r e
  rw [hx.b] at hc; cases hc
 have ltl := xbl w _ hv
 have ltb := xbl w _ c0
 refine qa5 (n := 106) (x0 := fun s => a.tmps.getD s undef) (turn := 13) (KN := Kcg cl n x cv m k v g w) (J := Jcg cl n x cb pv cv ld m k v g w) (by kernel_rfl) q0p ⟨_, ?_, fun _ => rfl⟩ ⟨⟨jy _, fun _ _ _ => rfl, rfl, rfl⟩, fun _ => hx.r⟩ ?_ ?_
 ·obtain ⟨t, df⟩ := a
  obtain rfl : df = [] := hdf
  rw [qel hsz]
 ·intro j o d y w1 b hbt ho hd hy qz hJ
  have old : ∀ q, q < w.heap.size → cv.ownBlock ≠ some q → w1.heap[q]? = w.heap[q]? := fun q h1 h2 => hJ.but.keep q h1 h2
  have y3 : y 3 = .pointer (some ⟨cb, 0, none⟩) := (hy 3 (qcy (by kernel_rfl))).trans h3
  have y7 : y 7 = .pointer (some ⟨cl, 1 + n * 3, none⟩) := (hy 7 (qcy (by kernel_rfl))).trans h7
  match j, ho with
  |0, ho =>
   obtain rfl := qw (a := cgo 0) rfl ho
   obtain rfl := qw (a := 90) rfl hd
   exact qh (run_move rfl (qp y7)) ⟨_, qc rfl, rfl, by simpa using hJ, fun _ _ _ h => h⟩
  |1, ho =>
   obtain rfl := qw (a := cgo 1) rfl ho
   obtain rfl := qw (a := 91) rfl hd
   have k0 := qz 0 (cgo 0) 90 rfl rfl (qg rfl)
   exact qh (ve rfl (qp k0)) ⟨_, qc rfl, rfl, by simpa using hJ, fun _ _ _ h => h⟩
  |2, ho =>
   obtain rfl := qw (a := cgo 2) rfl ho
   obtain rfl := qw (a := 92) rfl hd
   have k1 := qz 1 (cgo 1) 91 rfl rfl (qg rfl)
   exact qh (qcd 2 (by decide) rfl (qp k1)) ⟨_, qc rfl, rfl, by simpa using hJ, fun _ _ _ h => h⟩
  |3, ho =>
   obtain rfl := qw (a := cgo 3) rfl ho
   obtain rfl := qw (a := 93) rfl hd
   have k2 := qz 2 (cgo 2) 92 rfl rfl (qg rfl)
   exact qh (jg (ty := 78) rfl (qp k2) (by simp [isAgg, Tryz.underlying78]) ((xcb (old cl ltl hcl)).trans hv)) ⟨_, qc rfl, rfl, by simpa using hJ, fun _ _ _ h => h⟩
  |4, ho =>
   obtain rfl := qw (a := cgo 4) rfl ho
   obtain rfl := qw (a := 94) rfl hd
   exact qh (run_move rfl (qp y7)) ⟨_, qc rfl, rfl, by simpa using hJ, fun _ _ _ h => h⟩
  |5, ho =>
   obtain rfl := qw (a := cgo 5) rfl ho
   obtain rfl := qw (a := 95) rfl hd
   have k4 := qz 4 (cgo 4) 94 rfl rfl (qg rfl)
   exact qh (ve rfl (qp k4)) ⟨_, qc rfl, rfl, by simpa using hJ, fun _ _ _ h => h⟩
  |6, ho =>
   obtain rfl := qw (a := cgo 6) rfl ho
   obtain rfl := qw (a := 96) rfl hd
   have k5 := qz 5 (cgo 5) 95 rfl rfl (qg rfl)
   exact qh (qcd 2 (by decide) rfl (qp k5)) ⟨_, qc rfl, rfl, by simpa using hJ, fun _ _ _ h => h⟩
  |7, ho =>
   obtain rfl := qw (a := cgo 7) rfl ho
   obtain rfl := qw (a := 97) rfl hd
   have k6 := qz 6 (cgo 6) 96 rfl rfl (qg rfl)
   exact qh (jg (ty := 78) rfl (qp k6) (by simp [isAgg, Tryz.underlying78]) ((xcb (old cl ltl hcl)).trans hv)) ⟨_, qc rfl, rfl, by simpa using hJ, fun _ _ _ h => h⟩
  |8, ho =>
   obtain rfl := qw (a := cgo 8) rfl ho
   obtain rfl := qw (a := 98) rfl hd
   have k7 := qz 7 (cgo 7) 97 rfl rfl (qg rfl)
   exact qh (ve rfl (qp k7)) ⟨_, qc rfl, rfl, by simpa using hJ, fun _ _ _ h => h⟩
  |9, ho =>
   obtain rfl := qw (a := cgo 9) rfl ho
   obtain rfl := qw (a := 99) rfl hd
   have k8 := qz 8 (cgo 8) 98 rfl rfl (qg rfl)
   exact qh (qkm rfl (qp k8)) ⟨_, qc rfl, rfl, by simpa using hJ, fun _ _ _ h => h⟩
  |10, ho =>
   obtain rfl := qw (a := cgo 10) rfl ho
   obtain rfl := qw (a := 100) rfl hd
   have k9 := qz 9 (cgo 9) 99 rfl rfl (qg rfl)
   exact qh (jg (ty := 130) rfl (qp k9) (by simp [isAgg, Tryz.underlying130]) ((xcb (old x hxl hxc)).trans hx.cells.1)) ⟨_, qc rfl, rfl, by simpa using hJ, fun _ _ _ h => h⟩
  |11, ho =>
   obtain rfl := qw (a := cgo 11) rfl ho
   obtain rfl := qw (a := 101) rfl hd
   exact qh (qum rfl (qp y3) ((xcb (old cb ltb hcb)).trans c0) ((xcb (old cb ltb hcb)).trans c1) ((xcb (old cb ltb hcb)).trans c2)) ⟨_, qc rfl, rfl, by simpa using hJ, fun _ _ _ h => h⟩
  |12, ho =>
   obtain rfl := qw (a := cgo 12) rfl ho
   obtain rfl := qw (a := 102) rfl hd
   have k11 := qz 11 (cgo 11) 101 rfl rfl (qg rfl)
   have hbl : Below w1.heap.size w1 (w1.alloc (.cells #[.string k, .string v, .bool g] 87)) := (jo _ _).alloc (jy _) _
   have hJ2 := hJ.below hbl
   refine qh (qpe rfl (qp k11)) ⟨_, qc rfl, ⟨w1.heap.size, rfl, heap_alloc_new _ _, fun e => ?_⟩, by simpa using hJ2, fun i u _ h => qs8 i u _ _ hbl h⟩
   have := (World.ownsRow.lt hx.r _ e).2
   have := hJ.but.size
   omega
  |13, ho =>
   obtain rfl := qw (a := cgo 13) rfl ho
   obtain rfl := qw (a := 103) rfl hd
   have k10 := qz 10 (cgo 10) 100 rfl rfl (qg rfl)
   obtain ⟨bb, k12, q1, q2⟩ : Kcg cl n x cv m k v g w 12 (y 102) w1 := qz 12 (cgo 12) 102 rfl rfl (qg rfl)
   have hrow : qjd w1 cv m.cs := hJ.row (hbt rfl)
   have hsz1 := hJ.but.size
   refine wp_append_lies w1 (.tmp 100) (.tmp 102) 130 rfl 0 87 ci _ 3 40 Tryz.underlying130 i1 i2 i3 i4 rfl (by decide) cv m.cs.length (qer m.cs) (qp k10) hrow ⟨bb, 0, none⟩ 1 1 [.string k, .string v, .bool g] (qp k12) rfl (World.news_of_block q1) (by intro u hu; simp at hu; rcases hu with rfl | rfl | rfl <;> rfl) (by decide) (by unfold maxLen; omega) (by omega) (xzl _) _ rfl ?_
   intro gb cap w4 hrow4 hg4 q5h hlt4
   have qa8 : But (fun q => cv.ownBlock = some q) w1 w4 := ⟨hg4.size, fun q h1 h2 => hg4.block q h1 fun e => h2 e.symm, hg4.os, hg4.output⟩
   refine ⟨_, qc rfl, ⟨gb, cap, rfl, ?_, q5h.imp id fun e => by omega⟩, ⟨hJ.but.trans qa8, fun e => by simp at e⟩, fun i u hne h => ?_⟩
   ·rw [show qer (m.cs ++ [qde k v g]) = qer m.cs ++ [.string k, .string v, .bool g] by simp [qer, qde, sv]]
    exact hrow4
   ·match i, h with
    |12, ⟨b, h1, h2, h3⟩ => exact ⟨b, h1, (hg4.block b (zx h2).1 fun e => h3 e.symm).trans h2, h3⟩
    |13, _ => exact absurd rfl hne
    |0, h => exact h
    |1, h => exact h
    |2, h => exact h
    |3, h => exact h
    |4, h => exact h
    |5, h => exact h
    |6, h => exact h
    |7, h => exact h
    |8, h => exact h
    |9, h => exact h
    |10, h => exact h
    |11, h => exact h
    |14, h => exact h
    |15, h => exact h
    |i + 16, _ => trivial
  |14, ho =>
   obtain rfl := qw (a := cgo 14) rfl ho
   obtain rfl := qw (a := 104) rfl hd
   have k3 := qz 3 (cgo 3) 93 rfl rfl (qg rfl)
   exact qh (ve rfl (qp k3)) ⟨_, qc rfl, rfl, by simpa using hJ, fun _ _ _ h => h⟩
  |15, ho =>
   obtain rfl := qw (a := cgo 15) rfl ho
   obtain rfl := qw (a := 105) rfl hd
   have k14 := qz 14 (cgo 14) 104 rfl rfl (qg rfl)
   exact qh (qkm rfl (qp k14)) ⟨_, qc rfl, rfl, by simpa using hJ, fun _ _ _ h => h⟩
  |16, ho =>
   obtain rfl := qw (a := cgo 16) rfl ho
   exact absurd (show (cgo 16).dst = none from rfl) (by rw [hd]; exact fun e => by cases e)
  |i + 17, ho => exact absurd ho (by rw [Array.getElem?_eq_none (show cg1.size ≤ i + 17 by show 17 ≤ i + 17; omega)]; exact fun e => by cases e)
 ·intro mm o y w1 hmm ho hy hk hJ
  obtain rfl : mm = 16 := by
   have : mm + 1 = 17 := hmm
   omega
  obtain rfl := qw (a := cgo 16) rfl ho
  have k15 : y 105 = .pointer (some ⟨x, 4, none⟩) := hk 15 (cgo 15) 105 rfl rfl
  obtain ⟨gb, cap, k13, q1, q2⟩ : Kcg cl n x cv m k v g w 13 (y 103) w1 := hk 13 (cgo 13) 103 rfl rfl
  have hb1 : w1.heap[x]? = some (.cells (j3 n pv cv ld m) 135 (0, 0)) := (hJ.but.keep x hxl hxc).trans hx.b
  have hc1 : w1.cell? ⟨x, 4, none⟩ = some cv := by simp [World.cell?, hb1, j3]
  have hf1 : w1.frozen? ⟨x, 4, none⟩ = false := by simp [World.frozen?, hb1]
  have hgx : gb ≠ x := fun e => by
   rcases q2 with e2 | e2
   ·exact hxc (by rw [e2, e])
   ·omega
  have hr : (execOp (Act.mk (lay 106 y) []).eval (cgo 16)).run Tryz.prog w1 = .ok .skip (w1.setCell ⟨x, 4, none⟩ (y 103)) := by
   have e1 : (Act.mk (lay 106 y) []).eval (.tmp 105) = .pointer (some ⟨x, 4, none⟩) := tmp (by decide) k15
   have e2 : (Act.mk (lay 106 y) []).eval (.tmp 103) = y 103 := tmp (by decide) rfl
   have hop : (cgo 16).op = .store 130 (.tmp 105) (.tmp 103) := rfl
   rw [k13] at e2 ⊢
   have hu := Tryz.underlying130
   generalize (Act.mk (lay 106 y) []).eval = ev at *
   unfold execOp
   simp [go_sem, hop, e1, e2, hu, isAgg, hc1, hf1]
  unfold Oper.wp
  rw [hr]
  refine hQ y _ (y 103) hy ⟨?_, ?_⟩ (fun b hb => ?_) ?_
  ·rw [xhs w1 x 4 _ _ _ hb1]
   rfl
  ·have := ownsRow_setCell_other q1 (a := ⟨x, 4, none⟩) (fun e => hgx (by rw [k13] at e; exact xoi e)) (y 103)
   unfold qjd
   rw [show ({ m with cs := m.cs ++ [qde k v g] } : Mv).cs = m.cs ++ [qde k v g] from rfl, List.length_append]
   exact this
  ·rw [k13] at hb
   cases hb
   exact q2
  ·exact But.setCell (B := fun q => q = x ∨ cv.ownBlock = some q) (hJ.but.mono fun q h => .inr h) (.inl rfl) _ _
end
section
variable {e : Operand → Value} {o : Oper} {p q : Operand} {v : Value} {g f k : Nat} {w : World}
theorem qd4 (f : Nat) (hf : f < 3) (h : o.op = .fieldAddr 104 p f) (hp : e p = .pointer (some ⟨g, k, none⟩)) : (execOp e o).run Tryz.prog w = .ok (.value (.pointer (some ⟨g, k + f, none⟩))) w := by
 have hu := Tryz.underlying104
 have hf' : f = 0 ∨ f = 1 ∨ f = 2 := by omega
 have hadd : ∀ j, (⟨g, k, none⟩ : Addr).add j = ⟨g, k + j, none⟩ := fun j => Addr.add_lit ..
 unfold execOp
 rcases hf' with rfl | rfl | rfl <;> simp [go_sem, h, hp, hu, hadd]
theorem qkn (h : o.op = .fieldAddr 110 p 4) (hp : e p = .pointer (some ⟨g, 0, none⟩)) : (execOp e o).run Tryz.prog w = .ok (.value (.pointer (some ⟨g, 4, none⟩))) w := by
 have hu := Tryz.underlying110
 unfold execOp
 simp [go_sem, h, hp, hu]
theorem qun {a b c : Value} (h : o.op = .load 60 p) (hp : e p = .pointer (some ⟨g, 0, none⟩)) (h0 : w.cell? ⟨g, 0, none⟩ = some a) (h1 : w.cell? ⟨g, 1, none⟩ = some b) (h2 : w.cell? ⟨g, 2, none⟩ = some c) : (execOp e o).run Tryz.prog w = .ok (.value (.agg #[a, b, c])) w := by
 have hA := Tryz.isAgg60
 have hS := Tryz.sizeOf60
 unfold execOp
 simp [go_sem, h, hp, hA, hS, h0, h1, h2]
theorem qpf {a b : ByteArray} {c : Bool} (h : o.op = .buildSlice 108 1 #[(0, p)]) (hp : e p = .agg #[.string a, .string b, .bool c]) : (execOp e o).run Tryz.prog w = .ok (.value (.slice (some ⟨w.heap.size, 0, none⟩) 1 1)) (w.alloc (.cells #[.string a, .string b, .bool c] 60)) := by
 have hu := Tryz.underlying108
 unfold execOp
 simp [go_sem, h, hp, hu]
theorem qy0 : ∃ i, Tryz.prog.info? 60 = some i ∧ i.zero = some (.agg #[.string ⟨#[]⟩, .string ⟨#[]⟩, .bool false]) ∧ i.size = 3 ∧ i.bytes = 40 := by
 have h : (Tryz.prog.info? 60).map (fun i => (i.zero, i.size, i.bytes)) = some (some (.agg #[.string ⟨#[]⟩, .string ⟨#[]⟩, .bool false]), 3, 40) := by kernel_rfl
 obtain ⟨i, h1, h2⟩ := Option.map_eq_some_iff.1 h
 injection h2 with h2 h3
 injection h3 with h3 h4
 exact ⟨i, h1, h2, h3, h4⟩
end
theorem qxq (y : Nat → Value) : lay 94 y = #[y 0, y 1, y 2, y 3, y 4, y 5, y 6, y 7, y 8, y 9, y 10, y 11, y 12, y 13, y 14, y 15, y 16, y 17, y 18, y 19, y 20, y 21, y 22, y 23, y 24, y 25, y 26, y 27, y 28, y 29, y 30, y 31, y 32, y 33, y 34, y 35, y 36, y 37, y 38, y 39, y 40, y 41, y 42, y 43, y 44, y 45, y 46, y 47, y 48, y 49, y 50, y 51, y 52, y 53, y 54, y 55, y 56, y 57, y 58, y 59, y 60, y 61, y 62, y 63, y 64, y 65, y 66, y 67, y 68, y 69, y 70, y 71, y 72, y 73, y 74, y 75, y 76, y 77, y 78, y 79, y 80, y 81, y 82, y 83, y 84, y 85, y 86, y 87, y 88, y 89, y 90, y 91, y 92, y 93] := rfl
noncomputable def rgc (b : Code) (k : Nat) : Code := match k with
 |0 => b
 |k + 1 => match b with
  | .seq _ c => rgc c k
  |c => c
noncomputable def dg1 : Array Oper := match rgc ((Tryz.f24.body).getD .skip) 10 with
 | .seq (.seq _ (.cond _ a _)) _ => rg a
 |_ => #[]
noncomputable def dgo (k : Nat) : Oper := dg1.getD k ⟨none, .alloc 0, 0, "", #[], none⟩
theorem q02 : qha dg1 94 = true := by kernel_rfl
section
variable {sb cb n x : Nat} {pv cv : Value} {m : Mv} {k v : ByteArray} {g : Bool} {w0 : World}
def Kdg (sb n x : Nat) (cv : Value) (m : Mv) (k v : ByteArray) (g : Bool) (w0 : World) : Nat → Value → World → Prop
 |0, u, _ => u = .pointer (some ⟨sb, n * 3, none⟩)
 |1, u, _ => u = .pointer (some ⟨sb, n * 3, none⟩)
 |2, u, _ => u = .pointer (some ⟨sb, n * 3 + 2, none⟩)
 |3, u, _ => u = .pointer (some ⟨x, 0, none⟩)
 |4, u, _ => u = .pointer (some ⟨sb, n * 3, none⟩)
 |5, u, _ => u = .pointer (some ⟨sb, n * 3, none⟩)
 |6, u, _ => u = .pointer (some ⟨sb, n * 3 + 2, none⟩)
 |7, u, _ => u = .pointer (some ⟨x, 0, none⟩)
 |8, u, _ => u = .pointer (some ⟨x, 0, none⟩)
 |9, u, _ => u = .pointer (some ⟨x, 4, none⟩)
 |10, u, _ => u = cv
 |11, u, _ => u = .agg #[.string k, .string v, .bool g]
 |12, u, w => ∃ b, u = .slice (some ⟨b, 0, none⟩) 1 1 ∧ w.heap[b]? = some (.cells #[.string k, .string v, .bool g] 60 (0, 0)) ∧ cv.ownBlock ≠ some b
 |13, u, w => ∃ b cap, u = .slice (some ⟨b, 0, none⟩) (m.cs.length + 1) cap ∧ w.ownsRow 0 60 3 u (m.cs.length + 1) (qer (m.cs ++ [qde k v g])) ∧ (cv.ownBlock = some b ∨ w0.heap.size ≤ b)
 |14, u, _ => u = .pointer (some ⟨x, 0, none⟩)
 |15, u, _ => u = .pointer (some ⟨x, 4, none⟩)
 |_, _, _ => True
theorem qta (j : Nat) (u : Value) (w w' : World) (hb : Below w.heap.size w w') (h : Kdg sb n x cv m k v g w0 j u w) : Kdg sb n x cv m k v g w0 j u w' := by
 match j, h with
 |12, ⟨b, h1, h2, h3⟩ => exact ⟨b, h1, (hb.block b (zx h2).1).trans h2, h3⟩
 |13, ⟨b, cap, h1, h2, h3⟩ => exact ⟨b, cap, h1, qj h2 fun q hq => hb.block q (h2.lt q hq).2, h3⟩
 |0, h => exact h
 |1, h => exact h
 |2, h => exact h
 |3, h => exact h
 |4, h => exact h
 |5, h => exact h
 |6, h => exact h
 |7, h => exact h
 |8, h => exact h
 |9, h => exact h
 |10, h => exact h
 |11, h => exact h
 |14, h => exact h
 |15, h => exact h
 |i + 16, _ => trivial
structure Jdg (sb n x cb : Nat) (pv cv : Value) (m : Mv) (k v : ByteArray) (g : Bool) (w0 : World) (b : Bool) (w : World) : Prop where
 but : But (fun q => cv.ownBlock = some q) w0 w
 row : b = false → qmo w cv m.cs
theorem Jdg.below {b : Bool} {w w' : World} (h : Jdg sb n x cb pv cv m k v g w0 b w) (hb : Below w.heap.size w w') : Jdg sb n x cb pv cv m k v g w0 b w' :=
 ⟨h.but.trans (But.of_below hb), fun e => (h.row e).block fun q hq => hb.block q (World.ownsRow.lt (h.row e) q hq).2⟩
theorem qqd {w : World} {a : Act} {Q : Exit → Act → World → Prop} (hsz : a.tmps.size = 94) (hdf : a.defers = []) (h3 : a.tmps.getD 3 undef = .pointer (some ⟨cb, 0, none⟩)) (h6 : a.tmps.getD 6 undef = .pointer (some ⟨sb, n * 3, none⟩))
  (hx : RX x pv cv m w) (hv : w.cell? ⟨sb, n * 3 + 2, none⟩ = some (.pointer (some ⟨x, 0, none⟩))) (c0 : w.cell? ⟨cb, 0, none⟩ = some (.string k)) (c1 : w.cell? ⟨cb, 1, none⟩ = some (.string v)) (c2 : w.cell? ⟨cb, 2, none⟩ = some (.bool g))
  (hsb : cv.ownBlock ≠ some sb) (hcb : cv.ownBlock ≠ some cb) (hcs : m.cs.length ≤ 1073741820)
  (hQ : ∀ y w' cv', (∀ s, (∀ (j : Nat) o, dg1[j]? = some o → o.dst ≠ some s) → y s = a.tmps.getD s undef) → RX x pv cv' { m with cs := m.cs ++ [qde k v g] } w' → (∀ b, cv'.ownBlock = some b → cv.ownBlock = some b ∨ w.heap.size ≤ b) → But (fun q => q = x ∨ cv.ownBlock = some q) w w' → Q .normal ⟨lay 94 y, []⟩ w') : (Code.region 16 dg1 true).wp Tryz.prog Q a w := by
 obtain ⟨ci, i1, i2, i3, i4⟩ := qy0
 have hxl := hx.lt
 have hxc : cv.ownBlock ≠ some x := fun e => by
  obtain ⟨cc, hc⟩ := jq hx.r e
  rw [hx.b] at hc; cases hc
 have lts := xbl w _ hv
 have ltb := xbl w _ c0
 refine qa5 (n := 94) (x0 := fun s => a.tmps.getD s undef) (turn := 13) (KN := Kdg sb n x cv m k v g w) (J := Jdg sb n x cb pv cv m k v g w) (by kernel_rfl) q02 ⟨_, ?_, fun _ => rfl⟩ ⟨⟨jy _, fun _ _ _ => rfl, rfl, rfl⟩, fun _ => hx.r⟩ ?_ ?_
 ·obtain ⟨t, df⟩ := a
  obtain rfl : df = [] := hdf
  rw [qel hsz]
 ·intro j o d y w1 b hbt ho hd hy qz hJ
  have old : ∀ q, q < w.heap.size → cv.ownBlock ≠ some q → w1.heap[q]? = w.heap[q]? := fun q h1 h2 => hJ.but.keep q h1 h2
  have y3 : y 3 = .pointer (some ⟨cb, 0, none⟩) := (hy 3 (qcy (by kernel_rfl))).trans h3
  have y6 : y 6 = .pointer (some ⟨sb, n * 3, none⟩) := (hy 6 (qcy (by kernel_rfl))).trans h6
  match j, ho with
  |0, ho =>
   obtain rfl := qw (a := dgo 0) rfl ho
   obtain rfl := qw (a := 78) rfl hd
   exact qh (run_move rfl (qp y6)) ⟨_, qc rfl, rfl, by simpa using hJ, fun _ _ _ h => h⟩
  |1, ho =>
   obtain rfl := qw (a := dgo 1) rfl ho
   obtain rfl := qw (a := 79) rfl hd
   have k0 := qz 0 (dgo 0) 78 rfl rfl (qg rfl)
   exact qh (ve rfl (qp k0)) ⟨_, qc rfl, rfl, by simpa using hJ, fun _ _ _ h => h⟩
  |2, ho =>
   obtain rfl := qw (a := dgo 2) rfl ho
   obtain rfl := qw (a := 80) rfl hd
   have k1 := qz 1 (dgo 1) 79 rfl rfl (qg rfl)
   exact qh (qd4 2 (by decide) rfl (qp k1)) ⟨_, qc rfl, rfl, by simpa using hJ, fun _ _ _ h => h⟩
  |3, ho =>
   obtain rfl := qw (a := dgo 3) rfl ho
   obtain rfl := qw (a := 81) rfl hd
   have k2 := qz 2 (dgo 2) 80 rfl rfl (qg rfl)
   exact qh (jg (ty := 102) rfl (qp k2) (by simp [isAgg, Tryz.underlying102]) ((xcb (old sb lts hsb)).trans hv)) ⟨_, qc rfl, rfl, by simpa using hJ, fun _ _ _ h => h⟩
  |4, ho =>
   obtain rfl := qw (a := dgo 4) rfl ho
   obtain rfl := qw (a := 82) rfl hd
   exact qh (run_move rfl (qp y6)) ⟨_, qc rfl, rfl, by simpa using hJ, fun _ _ _ h => h⟩
  |5, ho =>
   obtain rfl := qw (a := dgo 5) rfl ho
   obtain rfl := qw (a := 83) rfl hd
   have k4 := qz 4 (dgo 4) 82 rfl rfl (qg rfl)
   exact qh (ve rfl (qp k4)) ⟨_, qc rfl, rfl, by simpa using hJ, fun _ _ _ h => h⟩
  |6, ho =>
   obtain rfl := qw (a := dgo 6) rfl ho
   obtain rfl := qw (a := 84) rfl hd
   have k5 := qz 5 (dgo 5) 83 rfl rfl (qg rfl)
   exact qh (qd4 2 (by decide) rfl (qp k5)) ⟨_, qc rfl, rfl, by simpa using hJ, fun _ _ _ h => h⟩
  |7, ho =>
   obtain rfl := qw (a := dgo 7) rfl ho
   obtain rfl := qw (a := 85) rfl hd
   have k6 := qz 6 (dgo 6) 84 rfl rfl (qg rfl)
   exact qh (jg (ty := 102) rfl (qp k6) (by simp [isAgg, Tryz.underlying102]) ((xcb (old sb lts hsb)).trans hv)) ⟨_, qc rfl, rfl, by simpa using hJ, fun _ _ _ h => h⟩
  |8, ho =>
   obtain rfl := qw (a := dgo 8) rfl ho
   obtain rfl := qw (a := 86) rfl hd
   have k7 := qz 7 (dgo 7) 85 rfl rfl (qg rfl)
   exact qh (ve rfl (qp k7)) ⟨_, qc rfl, rfl, by simpa using hJ, fun _ _ _ h => h⟩
  |9, ho =>
   obtain rfl := qw (a := dgo 9) rfl ho
   obtain rfl := qw (a := 87) rfl hd
   have k8 := qz 8 (dgo 8) 86 rfl rfl (qg rfl)
   exact qh (qkn rfl (qp k8)) ⟨_, qc rfl, rfl, by simpa using hJ, fun _ _ _ h => h⟩
  |10, ho =>
   obtain rfl := qw (a := dgo 10) rfl ho
   obtain rfl := qw (a := 88) rfl hd
   have k9 := qz 9 (dgo 9) 87 rfl rfl (qg rfl)
   exact qh (jg (ty := 108) rfl (qp k9) (by simp [isAgg, Tryz.underlying108]) ((xcb (old x hxl hxc)).trans hx.cells.1)) ⟨_, qc rfl, rfl, by simpa using hJ, fun _ _ _ h => h⟩
  |11, ho =>
   obtain rfl := qw (a := dgo 11) rfl ho
   obtain rfl := qw (a := 89) rfl hd
   exact qh (qun rfl (qp y3) ((xcb (old cb ltb hcb)).trans c0) ((xcb (old cb ltb hcb)).trans c1) ((xcb (old cb ltb hcb)).trans c2)) ⟨_, qc rfl, rfl, by simpa using hJ, fun _ _ _ h => h⟩
  |12, ho =>
   obtain rfl := qw (a := dgo 12) rfl ho
   obtain rfl := qw (a := 90) rfl hd
   have k11 := qz 11 (dgo 11) 89 rfl rfl (qg rfl)
   have hbl : Below w1.heap.size w1 (w1.alloc (.cells #[.string k, .string v, .bool g] 60)) := (jo _ _).alloc (jy _) _
   have hJ2 := hJ.below hbl
   refine qh (qpf rfl (qp k11)) ⟨_, qc rfl, ⟨w1.heap.size, rfl, heap_alloc_new _ _, fun e => ?_⟩, by simpa using hJ2, fun i u _ h => qta i u _ _ hbl h⟩
   have := (World.ownsRow.lt hx.r _ e).2
   have := hJ.but.size
   omega
  |13, ho =>
   obtain rfl := qw (a := dgo 13) rfl ho
   obtain rfl := qw (a := 91) rfl hd
   have k10 := qz 10 (dgo 10) 88 rfl rfl (qg rfl)
   obtain ⟨bb, k12, q1, q2⟩ : Kdg sb n x cv m k v g w 12 (y 90) w1 := qz 12 (dgo 12) 90 rfl rfl (qg rfl)
   have hrow : qmo w1 cv m.cs := hJ.row (hbt rfl)
   have hsz1 := hJ.but.size
   refine wp_append_lies w1 (.tmp 88) (.tmp 90) 108 rfl 0 60 ci _ 3 40 Tryz.underlying108 i1 i2 i3 i4 rfl (by decide) cv m.cs.length (qer m.cs) (qp k10) hrow ⟨bb, 0, none⟩ 1 1 [.string k, .string v, .bool g] (qp k12) rfl (World.news_of_block q1) (by intro u hu; simp at hu; rcases hu with rfl | rfl | rfl <;> rfl) (by decide) (by unfold maxLen; omega) (by omega) (xzl _) _ rfl ?_
   intro gb cap w4 hrow4 hg4 q5h hlt4
   have qa8 : But (fun q => cv.ownBlock = some q) w1 w4 := ⟨hg4.size, fun q h1 h2 => hg4.block q h1 fun e => h2 e.symm, hg4.os, hg4.output⟩
   refine ⟨_, qc rfl, ⟨gb, cap, rfl, ?_, q5h.imp id fun e => by omega⟩, ⟨hJ.but.trans qa8, fun e => by simp at e⟩, fun i u hne h => ?_⟩
   ·rw [show qer (m.cs ++ [qde k v g]) = qer m.cs ++ [.string k, .string v, .bool g] by simp [qer, qde, sv]]
    exact hrow4
   ·match i, h with
    |12, ⟨b, h1, h2, h3⟩ => exact ⟨b, h1, (hg4.block b (zx h2).1 fun e => h3 e.symm).trans h2, h3⟩
    |13, _ => exact absurd rfl hne
    |0, h => exact h
    |1, h => exact h
    |2, h => exact h
    |3, h => exact h
    |4, h => exact h
    |5, h => exact h
    |6, h => exact h
    |7, h => exact h
    |8, h => exact h
    |9, h => exact h
    |10, h => exact h
    |11, h => exact h
    |14, h => exact h
    |15, h => exact h
    |i + 16, _ => trivial
  |14, ho =>
   obtain rfl := qw (a := dgo 14) rfl ho
   obtain rfl := qw (a := 92) rfl hd
   have k3 := qz 3 (dgo 3) 81 rfl rfl (qg rfl)
   exact qh (ve rfl (qp k3)) ⟨_, qc rfl, rfl, by simpa using hJ, fun _ _ _ h => h⟩
  |15, ho =>
   obtain rfl := qw (a := dgo 15) rfl ho
   obtain rfl := qw (a := 93) rfl hd
   have k14 := qz 14 (dgo 14) 92 rfl rfl (qg rfl)
   exact qh (qkn rfl (qp k14)) ⟨_, qc rfl, rfl, by simpa using hJ, fun _ _ _ h => h⟩
  |16, ho =>
   obtain rfl := qw (a := dgo 16) rfl ho
   exact absurd (show (dgo 16).dst = none from rfl) (by rw [hd]; exact fun e => by cases e)
  |i + 17, ho => exact absurd ho (by rw [Array.getElem?_eq_none (show dg1.size ≤ i + 17 by show 17 ≤ i + 17; omega)]; exact fun e => by cases e)
 ·intro mm o y w1 hmm ho hy hk hJ
  obtain rfl : mm = 16 := by
   have : mm + 1 = 17 := hmm
   omega
  obtain rfl := qw (a := dgo 16) rfl ho
  have k15 : y 93 = .pointer (some ⟨x, 4, none⟩) := hk 15 (dgo 15) 93 rfl rfl
  obtain ⟨gb, cap, k13, q1, q2⟩ : Kdg sb n x cv m k v g w 13 (y 91) w1 := hk 13 (dgo 13) 91 rfl rfl
  have hb1 : w1.heap[x]? = some (.cells (j5 pv cv m) 110 (0, 0)) := (hJ.but.keep x hxl hxc).trans hx.b
  have hc1 : w1.cell? ⟨x, 4, none⟩ = some cv := by simp [World.cell?, hb1, j5]
  have hf1 : w1.frozen? ⟨x, 4, none⟩ = false := by simp [World.frozen?, hb1]
  have hgx : gb ≠ x := fun e => by
   rcases q2 with e2 | e2
   ·exact hxc (by rw [e2, e])
   ·omega
  have hr : (execOp (Act.mk (lay 94 y) []).eval (dgo 16)).run Tryz.prog w1 = .ok .skip (w1.setCell ⟨x, 4, none⟩ (y 91)) := by
   have e1 : (Act.mk (lay 94 y) []).eval (.tmp 93) = .pointer (some ⟨x, 4, none⟩) := tmp (by decide) k15
   have e2 : (Act.mk (lay 94 y) []).eval (.tmp 91) = y 91 := tmp (by decide) rfl
   have hop : (dgo 16).op = .store 108 (.tmp 93) (.tmp 91) := rfl
   rw [k13] at e2 ⊢
   have hu := Tryz.underlying108
   generalize (Act.mk (lay 94 y) []).eval = ev at *
   unfold execOp
   simp [go_sem, hop, e1, e2, hu, isAgg, hc1, hf1]
  unfold Oper.wp
  rw [hr]
  refine hQ y _ (y 91) hy ⟨?_, ?_⟩ (fun b hb => ?_) ?_
  ·rw [xhs w1 x 4 _ _ _ hb1]
   rfl
  ·have := ownsRow_setCell_other q1 (a := ⟨x, 4, none⟩) (fun e => hgx (by rw [k13] at e; exact xoi e)) (y 91)
   unfold qmo
   rw [show ({ m with cs := m.cs ++ [qde k v g] } : Mv).cs = m.cs ++ [qde k v g] from rfl, List.length_append]
   exact this
  ·rw [k13] at hb
   cases hb
   exact q2
  ·exact But.setCell (B := fun q => q = x ∨ cv.ownBlock = some q) (hJ.but.mono fun q h => .inr h) (.inl rfl) _ _
end
end Go.Proofs.YtkpekiajdlolnabGreat.Ph
