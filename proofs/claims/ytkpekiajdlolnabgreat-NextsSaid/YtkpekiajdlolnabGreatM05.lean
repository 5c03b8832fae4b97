/-
 PROVED IN PARTS: text 5 of 8 of the carrying ground of the claim (see each part's own remark). Conditions: those that each theorem names.
-/
import Derived.Test.YtkpekiajdlolnabGreatM04
import Derived.Deep.RegionWith
import Derived.Deep.WholeRow
import Derived.Test.YtkpekiajdlolnabGreatRows
import Derived.ProofKit
import Derived.OpenShut
import Derived.Carry
import Derived.Conc.Holds
import Derived.Deep.Slices
import Derived.ChangeArms
import Derived.Laws.IdiomStrings
import Derived.Maps.AppendAt
import Derived.Shelf.SlIter.Nil
import Derived.Shelf.SortM.Plain
import Derived.Shelf.SortM.SortNone
import Derived.Ground.GgzProg
import Derived.Ground.SlgmProg
import Derived.Sort.KeysCollected
import Derived.Sort.Walk0
set_option linter.unusedVariables false
set_option linter.unusedSimpArgs false
set_option maxRecDepth 100000
set_option maxHeartbeats 4000000
namespace Go.Proofs.YtkpekiajdlolnabGreat
open Go.RowKit Go.Maps
theorem But.setCell {B : Nat → Prop} {w w' : World} {b : Nat} (h : But B w w') (hb : B b) (o : Nat) (v : Value) : But B w (w'.setCell ⟨b, o, none⟩ v) :=
 ⟨by simpa using h.size, fun k hk hn => (xho w' _ k v fun e => hn (by subst e; exact hb)).trans (h.keep k hk hn), h.os, h.output⟩
section
variable {w : World} {ml sb : Nat} {lv : Nat → Value} {mp : Nat → Option Addr} {L : Nat → KV}
theorem qau {α : Type} (L : Nat → α) (n : Nat) : qo L n (L n) = L := by
 funext i; unfold qo; split
 ·rename_i h; rw [h]
 ·rfl
theorem qb0 {v : Value} {l : KV} {b : Nat} (h : yh w b v l) : ∃ sa cp, v = .slice sa l.length cp := by
 rcases h.1.2 with ⟨rfl, hz⟩ | ⟨g, cap, cur, rfl, _⟩
 ·exact ⟨none, 0, by rw [hz]⟩
 ·exact ⟨_, _, rfl⟩
theorem yh.to0 {v : Value} {l : KV} {b : Nat} (h : yh w b v l) : yh w 0 v l := qdj h.1 h.2 (xzl _) rfl
theorem qre (k v : ByteArray) (g : Bool) (h : qaz k.data.toList = false) : Calls Tryz.prog 24 #[.pointer (some ⟨ml, 0, none⟩), .agg #[.string k, .string v, .bool g]] w (q4q 2 w) := by
 go_enter Tryz.func24, Tryz.ntmps24
 go_wp2_with (go_at_call 50; refine (qy5 _ h).mono ?_; rintro e w1 ⟨rfl, hb⟩)
 go_ret
 exact ⟨rfl, ((jo _ _).alloc (jy _) _).trans (hb.mono (by simp))⟩
end
section
variable {w : World} {ml sb : Nat} {lv : Nat → Value} {mp : Nat → Option Addr} {L : Nat → KV}
theorem qvz {W : World} {n : Nat} {k : ByteArray} {w1 : World} {v : Value} (h : Mdl w1 ml sb lv mp L) (hb : Below W.heap.size W w1) (hn : n < 4) (hv : lv n = v) (hL : (L n).length ≤ 12) :
  Calls Tryz.prog 51 #[v, .string k] w1 fun e w' => (e = .returned (.tuple #[.int .i64 (qee (L n) k.data.toList), .bool (qbc (L n) k.data.toList)])) ∧ Mdl w' ml sb lv mp L ∧ Below W.heap.size W w' := by
 subst hv
 exact (qp2 (h.r n hn).1 (by omega) k).mono fun e w' ⟨h1, h2⟩ => ⟨h1, h.below h2, hb.trans (h2.mono hb.size)⟩
theorem q2e (k : ByteArray) (h : qaz k.data.toList = false) : Calls Tryz.prog 26 #[.pointer (some ⟨ml, 0, none⟩), .string k] w (qe5 w [] 2) := by
 go_enter Tryz.func26, Tryz.ntmps26
 go_wp2_with (go_at_call 50; refine (qy5 _ h).mono ?_; rintro e w1 ⟨rfl, hb⟩)
 go_ret2
 exact ⟨rfl, hb⟩
theorem qug (k : ByteArray) (n : Nat) (hn : n < 4) (hk : qaz k.data.toList = true) (hkn : ji k.data.toList = n) (hL : (L n).length ≤ 12) (hm : Mdl w ml sb lv mp L) (hh : qbc (L n) k.data.toList = false) :
  Calls Tryz.prog 26 #[.pointer (some ⟨ml, 0, none⟩), .string k] w (qe5 w [] 6) := by
 have hn3 : ((n : Int) < 4) := by omega
 have HM := Lib.hid hm
 have HH := Lib.hid hh
 clear hm hh
 go_enter Tryz.func26, Tryz.ntmps26
 go_wp2_with (first
  |(go_at_call 50; refine (qhe _ hk).mono ?_; rintro e w1 ⟨rfl, hb⟩; rw [hkn]; have M1 := Lib.hid (HM.out.below hb); have B1 := Lib.hid hb; obtain ⟨cap, ms⟩ := M1.out.s; obtain ⟨m1, m2, m3⟩ := M1.out.cl hn; clear hb)
  |(go_at_call 51; refine (qvz M1.out B1.out hn rfl hL).mono ?_; rintro e w2 ⟨rfl, h2⟩; rw [HH.out]; have H2 := Lib.hid h2; clear h2))
 go_ret2
 exact ⟨rfl, H2.out.2⟩
theorem quh (k : ByteArray) (n : Nat) (hn : n < 4) (hk : qaz k.data.toList = true) (hkn : ji k.data.toList = n) (hL : (L n).length ≤ 12) (hm : Mdl w ml sb lv mp L) (hh : qbc (L n) k.data.toList = true) (x : Bs) (hx : (L n)[qee (L n) k.data.toList]? = some (k.data.toList, x)) :
  Calls Tryz.prog 26 #[.pointer (some ⟨ml, 0, none⟩), .string k] w (qe5 w x 0) := by
 have hn3 : ((n : Int) < 4) := by omega
 have hlt := (List.getElem?_eq_some_iff.1 hx).1
 obtain ⟨ix, hix⟩ : ∃ i, qee (L n) k.data.toList = i := ⟨_, rfl⟩
 obtain ⟨g, cp, hv⟩ : ∃ g cp, lv n = .slice (some ⟨g, 0, none⟩) (L n).length cp := by
  rcases (hm.r n hn).1.2 with ⟨_, hz⟩ | ⟨g, cap, cur, h, _⟩
  ·omega
  ·exact ⟨g, cap, h⟩
 have hc : ∀ w', Below w.heap.size w w' → w'.cell? ⟨g, ix * 2 + 1, none⟩ = some (sv x) := fun w' hb => by
  have h1 := (flat_get (L n) _ _ hx).2
  have h2 := ((hm.below hb).r n hn).1.cells (g := g) (by rw [hv]; rfl) _ _ h1
  rw [Addr.add_lit, Nat.zero_add, hix] at h2
  exact h2
 rw [hix] at hlt
 have HM := Lib.hid hm
 have HH := Lib.hid hh
 have HV := Lib.hid hv
 have HC := Lib.hid hc
 have HI := Lib.hid hix
 have HS : Hid (sv x = .string ⟨x.toArray⟩) := Lib.hid rfl
 generalize hsx : sv x = svx at *
 unfold sv at hsx
 subst hsx
 clear hm hh hv hc hix hx
 go_enter Tryz.func26, Tryz.ntmps26
 go_wp2_with (first
  |(go_at_call 50; refine (qhe _ hk).mono ?_; rintro e w1 ⟨rfl, hb⟩; rw [hkn]; have M1 := Lib.hid (HM.out.below hb); have B1 := Lib.hid hb; obtain ⟨cap, ms⟩ := M1.out.s; have m1 := (M1.out.cl hn).1; rw [HV.out] at m1; clear hb)
  |(go_at_call 51; refine (qvz M1.out B1.out hn HV.out hL).mono ?_; rintro e w2 ⟨rfl, h2⟩; rw [HH.out, HI.out]; have H2 := Lib.hid h2; obtain ⟨cap2, ms2⟩ := H2.out.1.s; have m2 := (H2.out.1.cl hn).1; rw [HV.out] at m2; have c2 := HC.out _ H2.out.2; clear h2))
 go_ret2
 exact ⟨rfl, H2.out.2⟩
theorem q6d (k : ByteArray) (hL : ∀ i, i < 4 → (L i).length ≤ 12) (hri : ∀ i, i < 4 → zi (L i)) (hm : Mdl w ml sb lv mp L) :
  Calls Tryz.prog 26 #[.pointer (some ⟨ml, 0, none⟩), .string k] w (qe5 w (qqo L k.data.toList) (qqn L k.data.toList)) := by
 unfold qqo qqn
 cases hk : qaz k.data.toList
 ·exact q2e k hk
 ·have hn := qc0 k.data.toList
  obtain ⟨a1, a2, a3, _⟩ := qef (hri _ hn) k.data.toList
  cases hx : jd (L (ji k.data.toList)) k.data.toList with
  |none => exact qug k _ hn hk rfl (hL _ hn) hm (by rw [a2, hx]; rfl)
  |some x => exact quh k _ hn hk rfl (hL _ hn) hm (by rw [a2, hx]; rfl) x (a3 x hx)
end
def SS (x : Nat → Value) : Array Value := #[x 0, x 1, x 2, x 3, x 4, x 5, x 6, x 7, x 8, x 9, x 10, x 11, x 12, x 13, x 14, x 15, x 16, x 17, x 18, x 19, x 20, x 21, x 22, x 23, x 24, x 25, x 26, x 27, x 28, x 29, x 30, x 31, x 32, x 33, x 34, x 35, x 36, x 37, x 38, x 39, x 40, x 41, x 42, x 43, x 44, x 45, x 46, x 47, x 48, x 49, x 50, x 51, x 52, x 53, x 54, x 55, x 56, x 57, x 58, x 59, x 60, x 61, x 62, x 63, x 64, x 65, x 66, x 67, x 68, x 69, x 70, x 71, x 72, x 73, x 74, x 75, x 76, x 77, x 78, x 79, x 80, x 81, x 82, x 83, x 84, x 85, x 86, x 87, x 88, x 89, x 90, x 91, x 92, x 93, x 94, x 95, x 96, x 97, x 98, x 99, x 100, x 101, x 102, x 103, x 104, x 105, x 106, x 107, x 108, x 109, x 110, x 111, x 112, x 113, x 114, x 115, x 116, x 117, x 118, x 119, x 120, x 121, x 122, x 123, x 124, x 125, x 126, x 127, x 128, x 129, x 130, x 131, x 132, x 133, x 134, x 135, x 136, x 137, x 138, x 139, x 140, x 141, x 142, x 143, x 144, x 145, x 146, x 147, x 148, x 149, x 150, x 151, x 152, x 153, x 154, x 155, x 156, x 157, x 158, x 159, x 160, x 161, x 162, x 163, x 164, x 165, x 166, x 167, x 168, x 169, x 170, x 171, x 172, x 173, x 174, x 175, x 176, x 177, x 178, x 179, x 180, x 181, x 182, x 183, x 184, x 185, x 186, x 187, x 188, x 189, x 190, x 191, x 192, x 193, x 194, x 195, x 196, x 197, x 198, x 199, x 200, x 201, x 202, x 203, x 204, x 205, x 206, x 207, x 208, x 209, x 210, x 211, x 212, x 213, x 214, x 215, x 216, x 217, x 218, x 219, x 220, x 221, x 222, x 223]
def upd (x : Nat → Value) (j : Nat) (v : Value) : Nat → Value := fun i => if i = j then v else x i
theorem ql {x : Nat → Value} {j : Nat} {v : Value} (h : x j = v) : ∃ y, x = upd y j v := ⟨x, by funext i; unfold upd; split <;> simp_all⟩
def hd1 : Code → Code
 | .seq a _ => a
 |c => c
def tl1 : Code → Code
 | .seq _ b => b
 |_ => .skip
noncomputable def tB : Code := (Tryz.f15.body).getD .skip
noncomputable def tO : Code := hd1 tB
noncomputable def tN : Code := hd1 (tl1 tB)
noncomputable def tEm : Code := hd1 (tl1 (tl1 tB))
noncomputable def tP : Code := hd1 (tl1 (tl1 (tl1 tB)))
noncomputable def tM : Code := tl1 (tl1 (tl1 (tl1 tB)))
structure OpV where
 k : Int
 a : Int
 b : Int
 c : Int
 d : Int
 e : Int
 f : Int
 s : ByteArray
 t : ByteArray
 u : ByteArray
def OpV.cells (o : OpV) : Array Value := #[.int .i64 o.k, .int .i64 o.a, .int .i64 o.b, .int .i64 o.c, .int .i64 o.d, .int .i64 o.e, .int .i64 o.f, .string o.s, .string o.t, .string o.u]
section
variable {x : Nat → Value} {w : World} {Q : Exit → Act → World → Prop} {o : OpV} {W ob : Nat}
theorem jbx (h1 : x 1 = .agg o.cells) (h : Q .normal ⟨SS (upd (upd x 3 (.pointer (some ⟨w.heap.size, 0, none⟩))) 4 (.bool false)), []⟩ (w.alloc (.cells o.cells 30))) : Code.wp Tryz.prog tO Q ⟨SS x, []⟩ w := by
 obtain ⟨x, rfl⟩ := ql h1
 clear h1
 unfold tO tB SS
 simp only [Tryz.f15, Option.getD, hd1, upd, Nat.reduceEqDiff, if_true, if_false]
 unfold OpV.cells at *
 go_wp2
 exact h
def qgu (R : World → Prop) : Exit → Act → World → Prop
 | .ret, a, w => a.tmps.getD 4 undef = .bool true ∧ a.defers = [] ∧ R w
 |_, _, _ => False
end
end Go.Proofs.YtkpekiajdlolnabGreat
namespace Go.Proofs.YtkpekiajdlolnabGreat.Ph
open Go.Conc Go.ConcN Go.RowKit Go.Maps Go.Conc.Lib Go Sim
abbrev fT : FuncId := 15
def bT : Frame := base fT
theorem But.same' {B : Nat → Prop} {w wc : World} (s : Same w wc) : But B w wc := ⟨by rw [s.heap]; exact jy _, fun k _ _ => by rw [s.heap], s.os, s.output⟩
structure OpV.Ok (o : OpV) : Prop where
 k : -9223372036854775808 ≤ o.k ∧ o.k ≤ 9223372036854775807
 a : -9223372036854775808 ≤ o.a ∧ o.a ≤ 9223372036854775807
 b : -9223372036854775808 ≤ o.b ∧ o.b ≤ 9223372036854775807
 c : -9223372036854775808 ≤ o.c ∧ o.c ≤ 9223372036854775807
 d : -9223372036854775808 ≤ o.d ∧ o.d ≤ 9223372036854775807
 e : -9223372036854775808 ≤ o.e ∧ o.e ≤ 9223372036854775807
 f : -9223372036854775808 ≤ o.f ∧ o.f ≤ 9223372036854775807
 s : o.s.size ≤ 140737488355328
 t : o.t.size ≤ 140737488355328
 u : o.u.size ≤ 140737488355328
theorem OpV.Ok.s' {o : OpV} (h : OpV.Ok o) : o.s.size ≤ maxLen := by have := h.s; unfold maxLen; omega
def lay (n : Nat) (x : Nat → Value) : Array Value := ((List.range n).map x).toArray
section
variable {n j : Nat} {x : Nat → Value} {v : Value}
theorem qi3 (h : j < n) : (lay n x)[j]? = some (x j) := by simp [lay, h]
theorem qj4 (h : j < n) : (lay n x).getD j undef = x j := by
 rw [Array.getD_eq_getD_getElem?, qi3 h]; rfl
theorem qbl : (lay n x).setIfInBounds j v = lay n (upd x j v) := by
 apply Array.ext
 ·simp [lay]
 ·intro i h1 h2
  simp only [lay, Array.size_setIfInBounds, List.size_toArray, List.length_map, List.length_range] at h1 h2
  rw [Array.getElem_setIfInBounds]
  ·simp only [lay, upd, List.getElem_toArray, List.getElem_map, List.getElem_range]
   by_cases e : j = i
   ·rw [if_pos e, if_pos e.symm]
   ·rw [if_neg e, if_neg fun h => e h.symm]
  ·simpa [lay] using h1
theorem qel {t : Array Value} (h : t.size = n) : lay n (fun i => t.getD i undef) = t := by
 apply Array.ext
 ·simp [lay, h]
 ·intro i h1 h2
  simp only [lay, List.getElem_toArray, List.getElem_map, List.getElem_range]
  rw [Array.getD_eq_getD_getElem?, Array.getElem?_eq_getElem h2]; rfl
abbrev evx (n : Nat) (x : Nat → Value) : Operand → Value := (Act.mk (lay n x) []).eval
theorem qfm (h : j < n) : evx n x (.tmp j) = x j := qj4 h
theorem tmp {n j : Nat} {x : Nat → Value} {v : Value} (h : j < n) (e : x j = v) : evx n x (.tmp j) = v := (qfm h).trans e
theorem qp {n j : Nat} {x : Nat → Value} {v : Value} (e : x j = v) (h : j < n := by decide) : evx n x (.tmp j) = v := tmp h e
end
def Pure (e : Operand → Value) (o : Oper) (v : Value) : Prop := ∀ w, (execOp e o).run Tryz.prog w = .ok (.value v) w ∧ (execOp e o).events Tryz.prog w #[] = #[]
section
variable {e : Operand → Value} {o : Oper} {a b c : Operand} {v : Value} {m n : Int} {t u : Bool} {ty : TypeId}
theorem Pure.move (h : o.op = .move a) (hv : e a = v) : Pure e o v := fun w => by unfold execOp; constructor <;> simp [go_sem, h, hv]
theorem Pure.assign (h : o.op = .assign a) (hv : e a = v) : Pure e o v := fun w => by unfold execOp; constructor <;> simp [go_sem, h, hv]
theorem Pure.pick (h : o.op = .pick c a b) (hc : e c = .bool t) (hv : (if t then e a else e b) = v) : Pure e o v := fun w => by
 unfold execOp; subst hv; cases t <;> constructor <;> simp [go_sem, h, hc]
theorem Pure.qhc (h : o.op = .pick c a b) (hc : e c = .bool true) (hv : e a = v) : Pure e o v := Pure.pick h hc (by simpa using hv)
theorem Pure.qev (h : o.op = .pick c a b) (hc : e c = .bool false) (hv : e b = v) : Pure e o v := Pure.pick h hc (by simpa using hv)
theorem Pure.lss (h : o.op = .binOp .lss 3 a b 3) (ha : e a = .int .i64 m) (hb : e b = .int .i64 n) (ht : decide (m < n) = t) : Pure e o (.bool t) := fun w => by
 unfold execOp; subst ht; constructor <;> simp [go_sem, h, ha, hb]
theorem Pure.gtr (h : o.op = .binOp .gtr 3 a b 3) (ha : e a = .int .i64 m) (hb : e b = .int .i64 n) (ht : decide (n < m) = t) : Pure e o (.bool t) := fun w => by
 unfold execOp; subst ht; constructor <;> simp [go_sem, h, ha, hb]
theorem Pure.leq (h : o.op = .binOp .leq 3 a b 3) (ha : e a = .int .i64 m) (hb : e b = .int .i64 n) (ht : decide (m ≤ n) = t) : Pure e o (.bool t) := fun w => by
 unfold execOp; subst ht; constructor <;> simp [go_sem, h, ha, hb]
theorem Pure.eql (h : o.op = .binOp .eql 3 a b 3) (ha : e a = .int .i64 m) (hb : e b = .int .i64 n) (ht : (m == n) = t) : Pure e o (.bool t) := fun w => by
 unfold execOp; subst ht; constructor <;> simp [go_sem, h, ha, hb]
theorem Pure.neq (h : o.op = .binOp .neq 3 a b 3) (ha : e a = .int .i64 m) (hb : e b = .int .i64 n) (ht : (m != n) = t) : Pure e o (.bool t) := fun w => by
 unfold execOp; subst ht; constructor <;> simp [go_sem, h, ha, hb]
theorem Pure.add (h : o.op = .binOp .add 3 a b 3) (ha : e a = .int .i64 m) (hb : e b = .int .i64 n) (h1 : -9223372036854775808 ≤ m + n) (h2 : m + n ≤ 9223372036854775807) : Pure e o (.int .i64 (m + n)) := fun w => by
 have hw : IntKind.i64.wrap (m + n) = m + n := by rw [IntKind.wrap_i64]; omega
 unfold execOp; constructor <;> simp [go_sem, h, ha, hb, hw]
theorem Pure.not (h : o.op = .unOp .not 4 a) (ha : e a = .bool t) (ht : (!t) = u) : Pure e o (.bool u) := fun w => by
 unfold execOp; subst ht; constructor <;> simp [go_sem, h, ha]
end
def ek (l : List (Nat × Value)) : Operand → Value
 | .tmp j => (l.lookup j).getD undef
 | .const v => v
 |_ => undef
theorem qwm : ∀ (l : List (Nat × Value)) (j : Nat), (l.lookup j).getD undef = undef ∨ ∃ p ∈ l, (l.lookup j).getD undef = p.2
 | [], j => .inl rfl
 |p :: l, j => by
  obtain ⟨a, v⟩ := p
  rw [List.lookup_cons]
  by_cases e : j == a
  ·rw [e]; exact .inr ⟨_, .head _, rfl⟩
  ·simp only [Bool.not_eq_true] at e
   rw [e]
   rcases qwm l j with h | ⟨p, h1, h2⟩
   ·exact .inl h
   ·exact .inr ⟨p, .tail _ h1, h2⟩
theorem qoc {ρ : Rel} {l : List (Nat × Value)} (h : ∀ p ∈ l, VR XG.F ρ p.2 p.2) : EvR XG.F fb ρ (ek l) (ek l) := by
 refine ⟨fun x hx => ?_, fun _ => rfl⟩
 cases x with
 |tmp j =>
  rcases qwm l j with e | ⟨p, h1, e⟩
  ·show VR XG.F ρ ((l.lookup j).getD undef) _
   rw [show (ek l (.tmp j)) = undef from e]
   rw [e]; exact qeq
  ·show VR XG.F ρ ((l.lookup j).getD undef) (ek l (.tmp j))
   rw [show (ek l (.tmp j)) = p.2 from e]
   rw [e]; exact h p h1
 |const v => exact qdz (fun _ h => h) _ hx
 |_ => exact qeq
section
variable {N : Blocks} {kv : List Value} {cs cs1 : List Frame} {w : World} {Z : Frame → World → Prop} {b : Frame} {k : List Item} {n i j : Nat} {x : Nat → Value} {ops : Array Oper} {td : List Nat} {o : Oper}
theorem qb {y : Nat → Option Bool} (h : o.guard = none) : Region.wanted o y = true := by unfold Region.wanted; rw [h]
theorem qd {g j : Nat} {t t' r : Bool} {og : Oper} (h : o.guard = some (g, t)) (hg : ops[g]? = some og) (hd : og.dst = some j) (hj : j < n) (hx : x j = .bool t') (hr : (t' == t) = r) : Region.wanted o (yielded ops (lay n x)) = r := by
 unfold Region.wanted
 rw [h]
 have : yielded ops (lay n x) g = some t' := by
  unfold yielded
  rw [hg]
  simp only [Option.bind_some, hd, qi3 hj, hx]
 simp only [this]
 subst hr
 cases t <;> cases t' <;> rfl
theorem qf.bv (hbl : blG b.fn = true) (hk : b.kind ≠ .early) (v : Value) (ho : ops[i]? = some o) (hd : o.dst = some j) (hw : Region.wanted o (yielded ops (lay n x)) = true) (hr : Pure (evx n x) o v)
  (nx : qf N kv cs (b.at ⟨lay n (upd x j v), []⟩ (.inRegion ops td :: k)) w cs1 Z) : qf N kv cs (b.at ⟨lay n x, []⟩ (.inRegion ops (i :: td) :: k)) w cs1 Z := by
 refine qf.val hbl hk v ho hw hr ?_
 rw [hd]
 show qf N kv cs (b.at ⟨(lay n x).setIfInBounds j v, []⟩ _) w cs1 Z
 rw [qbl]
 exact nx
theorem qf.bu (hbl : blG b.fn = true) (ho : ops[i]? = some o) (hd : o.dst = some j) (hw : Region.wanted o (yielded ops (lay n x)) = false)
  (nx : qf N kv cs (b.at ⟨lay n (upd x j undef), []⟩ (.inRegion ops td :: k)) w cs1 Z) : qf N kv cs (b.at ⟨lay n x, []⟩ (.inRegion ops (i :: td) :: k)) w cs1 Z := by
 refine qf.unwanted ho hw ?_
 rw [hd]
 show qf N kv cs (b.at ⟨(lay n x).setIfInBounds j undef, []⟩ _) w cs1 Z
 rw [qbl]
 exact nx
theorem qf.qdw {c : Nat} {p q : Code} {t : Bool} (hc : c < n) (h : x c = .bool t) (nx : qf N kv cs (b.at ⟨lay n x, []⟩ (.code (if t then p else q) :: k)) w cs1 Z) : qf N kv cs (b.at ⟨lay n x, []⟩ (.code (.cond (.tmp c) p q) :: k)) w cs1 Z :=
 qf.cond (tmp hc h) nx
theorem qyl {ρ : Rel} {e : Operand → Value} {o : Oper} {w w1 : World} (hok : qa0 XG.P XG.P' fb true o = true) (he : EvR XG.F fb ρ e e) (hw : WR XG ρ w w) (hr : (execOp e o).run XG.P w = .ok .skip w1) :
  ∃ ρ1, ρ.le ρ1 ∧ WR XG ρ1 w1 w1 ∧ xh (rng ρ) (own XG ρ) w (rng ρ1) (own XG ρ1) w1 ((execOp e o).events XG.P w #[]) := by
 have hs := SS.execOp qga.ok true qga.wrs o hok e e he
 obtain ⟨ρ1, a', w1', es1, h1, h2, h3, h4, h5, h6, h7⟩ := hs.1 w w _ w1 #[] hw hr
 rw [show XG.P' = XG.P from rfl] at h1
 have e1 := congrArg Prod.fst h1
 rw [Sem.runT_fst, hr] at e1
 have e1 : (Result.ok Next.skip w1 : Result Next) = .ok a' w1' := e1
 injection e1 with ea ew
 subst ea; subst ew
 have ee : (execOp e o).events XG.P w #[] = es1 := by
  have := congrArg Prod.snd h1
  simpa [Sem.runT_eq] using this
 exact ⟨ρ1, h3.le, h2, by rw [ee]; exact qcs hw h3 h2 h5⟩
theorem qf.q4v {a : Act} {e : Operand → Value} {R : World → Prop} (hbl : blG b.fn = true) (hk : b.kind ≠ .early) (ho : ops[i]? = some o) (hok : qa0 XG.P XG.P' fb true o = true) (hw : Region.wanted o (yielded ops a.tmps) = true)
  (hsame : execOp a.eval o = execOp e o) (he : ∀ ρ, (∀ v ∈ kv, VR XG.F ρ v v) → EvR XG.F fb ρ e e) (hr : ∀ wc, Same w wc → ∃ w1, (execOp e o).run XG.P wc = .ok .skip w1 ∧ R w1 ∧ wc.heap.size ≤ w1.heap.size)
  (nx : ∀ w1, R w1 → qf N kv cs (b.at (a.put o.dst undef) (.inRegion ops td :: k)) w1 cs1 Z) : qf N kv cs (b.at a (.inRegion ops (i :: td) :: k)) w cs1 Z := fun wc s gs sl t SB ρ q hc hN hK => by
 have key : ∀ d, ∃ w1, (execOp e o).run XG.P (wc.at d) = .ok .skip w1 ∧ R w1 ∧ wc.heap.size ≤ w1.heap.size := fun d => hr (wc.at d) (s.trans (Same.at wc d))
 have hwr : ∀ d, WR XG ρ (wc.at d) (wc.at d) := fun d => ⟨hc.wr.fn, hc.wr.inj, hc.wr.heap, fun _ _ => rfl, hc.wr.sh⟩
 have hst : ∀ d w1, (execOp e o).run XG.P (wc.at d) = .ok .skip w1 → stepG XG.P true (G (b.at a (.inRegion ops (i :: td) :: k)) cs) (wc.at d) = .go (G (b.at (a.put o.dst undef) (.inRegion ops td :: k)) cs) w1 _ := fun d w1 h =>
  stepG_none (P := XG.P) (main := true) (b := b) (k := k) (cs := cs) (rest := td) (a := a) (w := wc.at d) ho hw hk (by rw [hsame]; exact h)
 have step : ∀ d w1, (execOp e o).run XG.P (wc.at d) = .ok .skip w1 →
   ∃ ρ1, ρ.le ρ1 ∧ WR XG ρ1 w1 w1 ∧ xh (rng ρ) (own XG ρ) (wc.at d) (rng ρ1) (own XG ρ1) w1 ((execOp e o).events XG.P (wc.at d) #[]) := fun d w1 h => qyl hok (he ρ hK) (hwr d) h
 have hap : ∀ (d : Nat) (w1 : World) (ρ1 : Rel) (es : Array Event), xh (rng ρ) (own XG ρ) (wc.at d) (rng ρ1) (own XG ρ1) w1 es → ∀ b, rng ρ1 b → ¬ SB b := fun d w1 ρ1 es m4 b hb hs => by
  rcases m4.new b hb with h1 | h1
  ·exact hc.foot.apart b h1 hs
  ·have h2 : wc.heap.size ≤ b := h1
   have := hc.foot.low b hs
   omega
 obtain ⟨M, gs1, a1, d, w1, es, sl1, t1, q1, hrun, hgo, hz, h01, hL1, hP1, _⟩ := yx (P := XG.P) (SB := SB) (sl := sl) hc.g0 rfl hc.leavers hc.past fun d => by
  obtain ⟨w1, h1, _, h3⟩ := key d
  obtain ⟨ρ1, m1, m2, m4⟩ := step d w1 h1
  refine ⟨_, w1, _, hst d w1 h1, h3, fun ev hev => ?_⟩
  have := mem_listed hev
  rw [hsame] at this
  exact qhu (m4.ev ev this) (hap d w1 ρ1 _ m4) m4.low
 obtain ⟨w1', h1, h2, h3⟩ := key d
 obtain ⟨ρ1, m1, m2, m4⟩ := step d w1' h1
 rw [hst d w1' h1] at hgo
 injection hgo with e1 e2 e3
 subst e1; subst e2
 obtain ⟨gs2, fr2, w2, sl2, t2, SB2, ρ2, q2, k1, k2, k3, k4, k5⟩ := nx w1' h2 w1' (Same.refl _) gs1 sl1 t1 SB ρ1 q1
  ⟨h01, hL1, hP1, ⟨hap d w1' ρ1 _ m4, fun b hb => xll (hc.foot.low b hb) h3, m4.own, m4.low⟩, fun hb => (by rw [show (b.at (a.put o.dst undef) (.inRegion ops td :: k)).fn = b.fn from rfl, hbl] at hb; cases hb), fun c hcc hb => (hc.cs c hcc hb).mono m1, m2, trivial⟩ hN
  (fun x hx => (hK x hx).mono m1)
 exact ⟨gs2, fr2, w2, sl2, t2, SB2, ρ2, q2, Runs.trans ⟨M, hrun⟩ k1, k2, k3, k4, k5⟩
theorem qf.qv3 {a : Act} {e : Operand → Value} {R : Value → World → Prop} (hbl : blG b.fn = true) (hk : b.kind ≠ .early) (ho : ops[i]? = some o) (hok : qa0 XG.P XG.P' fb true o = true) (hw : Region.wanted o (yielded ops a.tmps) = true)
  (hsame : execOp a.eval o = execOp e o) (he : ∀ ρ, (∀ v ∈ kv, VR XG.F ρ v v) → EvR XG.F fb ρ e e) (hr : ∀ wc, Same w wc → ∃ v w1, (execOp e o).run XG.P wc = .ok (.value v) w1 ∧ R v w1 ∧ wc.heap.size ≤ w1.heap.size)
  (n : ∀ v w1, R v w1 → qf N kv cs (b.at (a.put o.dst v) (.inRegion ops td :: k)) w1 cs1 Z) : qf N kv cs (b.at a (.inRegion ops (i :: td) :: k)) w cs1 Z := fun wc s gs sl t SB ρ q hc hN hK => by
 have key : ∀ d, ∃ v w1, (execOp e o).run XG.P (wc.at d) = .ok (.value v) w1 ∧ R v w1 ∧ wc.heap.size ≤ w1.heap.size := fun d => hr (wc.at d) (s.trans (Same.at wc d))
 have hwr : ∀ d, WR XG ρ (wc.at d) (wc.at d) := fun d => ⟨hc.wr.fn, hc.wr.inj, hc.wr.heap, fun _ _ => rfl, hc.wr.sh⟩
 have hst : ∀ d v w1, (execOp e o).run XG.P (wc.at d) = .ok (.value v) w1 → stepG XG.P true (G (b.at a (.inRegion ops (i :: td) :: k)) cs) (wc.at d) = .go (G (b.at (a.put o.dst v) (.inRegion ops td :: k)) cs) w1 _ := fun d v w1 h =>
  stepG_value (P := XG.P) (main := true) (b := b) (k := k) (cs := cs) (rest := td) (a := a) (w := wc.at d) ho hw hk (by rw [hsame]; exact h)
 have step : ∀ d v w1, (execOp e o).run XG.P (wc.at d) = .ok (.value v) w1 → wc.heap.size ≤ w1.heap.size →
   ∃ ρ1, ρ.le ρ1 ∧ WR XG ρ1 w1 w1 ∧ VR XG.F ρ1 v v ∧ xh (rng ρ) (own XG ρ) (wc.at d) (rng ρ1) (own XG ρ1) w1 ((execOp e o).events XG.P (wc.at d) #[]) := fun d v w1 h _ =>
  let ⟨ρ1, m1, m2, m3, m4, _⟩ := qnc rfl qga hok (he ρ hK) (hwr d) h
  ⟨ρ1, m1, m2, m3, m4⟩
 have hap : ∀ (d : Nat) (v : Value) (w1 : World) (ρ1 : Rel) (es : Array Event), xh (rng ρ) (own XG ρ) (wc.at d) (rng ρ1) (own XG ρ1) w1 es → ∀ b, rng ρ1 b → ¬ SB b := fun d v w1 ρ1 es m4 b hb hs => by
  rcases m4.new b hb with h1 | h1
  ·exact hc.foot.apart b h1 hs
  ·have h2 : wc.heap.size ≤ b := h1
   have := hc.foot.low b hs
   omega
 obtain ⟨M, gs1, a1, d, w1, es, sl1, t1, q1, hrun, hgo, hz, h01, hL1, hP1, _⟩ := yx (P := XG.P) (SB := SB) (sl := sl) hc.g0 rfl hc.leavers hc.past fun d => by
  obtain ⟨v, w1, h1, _, h3⟩ := key d
  obtain ⟨ρ1, m1, m2, m3, m4⟩ := step d v w1 h1 h3
  refine ⟨_, w1, _, hst d v w1 h1, h3, fun ev hev => ?_⟩
  have := mem_listed hev
  rw [hsame] at this
  exact qhu (m4.ev ev this) (hap d v w1 ρ1 _ m4) m4.low
 obtain ⟨v, w1', h1, h2, h3⟩ := key d
 obtain ⟨ρ1, m1, m2, m3, m4⟩ := step d v w1' h1 h3
 rw [hst d v w1' h1] at hgo
 injection hgo with e1 e2 e3
 subst e1; subst e2
 obtain ⟨gs2, fr2, w2, sl2, t2, SB2, ρ2, q2, k1, k2, k3, k4, k5⟩ := n v w1' h2 w1' (Same.refl _) gs1 sl1 t1 SB ρ1 q1
  ⟨h01, hL1, hP1, ⟨hap d v w1' ρ1 _ m4, fun b hb => xll (hc.foot.low b hb) h3, m4.own, m4.low⟩, fun hb => (by rw [show (b.at (a.put o.dst v) (.inRegion ops td :: k)).fn = b.fn from rfl, hbl] at hb; cases hb), fun c hcc hb => (hc.cs c hcc hb).mono m1, m2, trivial⟩ hN
  (fun x hx => (hK x hx).mono m1)
 exact ⟨gs2, fr2, w2, sl2, t2, SB2, ρ2, q2, Runs.trans ⟨M, hrun⟩ k1, k2, k3, k4, k5⟩
theorem qf.q3p {f : FuncId} {fn : Func} {args : Array Value} {R : Value → World → Prop} (hbl : blG b.fn = true) (ho : ops[i]? = some o) (hd : o.dst = some j) (hw : Region.wanted o (yielded ops (lay n x)) = true) (hk : b.kind ≠ .early)
  (ev : ∀ w, (execOp (evx n x) o).run XG.P w = .ok (.enter f args) w ∧ (execOp (evx n x) o).events XG.P w #[] = #[]) (hf : XG.P.funcs[f]? = some fn)
  (hargs : ∀ ρ, (∀ v ∈ kv, VR XG.F ρ v v) → blG f = false → jw XG.F ρ args.toList args.toList) (hS : ∀ v w wc, Same w wc → R v w → R v wc)
  (hcall : qk2 N kv f args w R) (nx : ∀ v w', R v w' → qf N kv cs (b.at ⟨lay n (upd x j v), []⟩ (.inRegion ops td :: k)) w' cs1 Z) : qf N kv cs (b.at ⟨lay n x, []⟩ (.inRegion ops (i :: td) :: k)) w cs1 Z := by
 have hs : ∀ w, stepG XG.P true (G (b.at ⟨lay n x, []⟩ (.inRegion ops (i :: td) :: k)) cs) w = .go (G (Frame.enter XG.P f args .normal) (b.at ⟨lay n x, []⟩ (.inRegion ops (i :: td) :: k) :: cs)) w #[] := fun w => by
  rw [stepG_enter ho hw hk (ev w).1]
  unfold listed
  rw [(ev w).2, seen_none]
 refine qf.sil (.step hs (.refl _ _)) (fun ρ h1 h2 hk => ⟨fun hb => FSt.enter hf (hargs ρ hk (by rw [← qjx XG.P f args]; exact hb)), fun c hc => ?_⟩) ((hcall _).then ?_)
 ·rcases List.mem_cons.1 hc with rfl | hc
  ·exact h1
  ·exact h2 c hc
 rintro jv w1 ⟨hfn, v, hl, hv, hr⟩
 refine qf.sil (.step (fun w => qcp hl) (.refl _ _)) (fun ρ h1 h2 _ => ⟨fun hb => ?_, fun c hc => h2 c (.tail _ hc)⟩) ?_
 ·rw [Frame.qfo, show (b.at ⟨lay n x, []⟩ (.inRegion ops (i :: td) :: k)).fn = b.fn from rfl, hbl] at hb
  cases hb
 rw [Frame.finish_at, ho]
 show qf N kv cs (b.at ((⟨lay n x, []⟩ : Act).put o.dst v) _) w1 cs1 Z
 rw [hd]
 show qf N kv cs (b.at ⟨(lay n x).setIfInBounds j v, []⟩ _) w1 cs1 Z
 rw [qbl]
 exact nx v w1 hr
end
section
variable {e : Operand → Value} {o : Oper} {a b c : Operand} {v : Value} {m n : Int} {t u : Bool} {ty : TypeId} {p : Option Addr} {l cp : Nat}
theorem Pure.q5o (h : o.op = .call { callee := .builtin .len, args := #[a], argTypes := #[22] }) (ha : e a = .slice p l cp) : Pure e o (.int .i64 l) := fun w => by
 have hu := Tryz.underlying22
 unfold execOp; constructor <;> simp [go_sem, h, ha, hu, resolve, invoke, builtin]
theorem Pure.q5p {s : ByteArray} (h : o.op = .call { callee := .builtin .len, args := #[a], argTypes := #[9] }) (ha : e a = .string s) : Pure e o (.int .i64 s.size) := fun w => by
 have hu := Tryz.underlying9
 unfold execOp; constructor <;> simp [go_sem, h, ha, hu, resolve, invoke, builtin, Builtin.len_]
theorem Pure.idx {g o0 i : Nat} (h : o.op = .indexAddr 22 a b) (ha : e a = .slice (some ⟨g, o0, none⟩) l cp) (hb : e b = .int .i64 i) (hi : i < l) : Pure e o (.pointer (some ⟨g, o0 + i * 10, none⟩)) := fun w => by
 have hu := Tryz.underlying22
 have h1 : (0 : Int) ≤ (i : Int) := by omega
 have h2 : (i : Int) < (l : Int) := by omega
 have hadd : (⟨g, o0, none⟩ : Addr).add (i * 10) = ⟨g, o0 + i * 10, none⟩ := Addr.add_lit ..
 unfold execOp; constructor <;> simp [go_sem, h, ha, hb, hu, h1, h2, hadd]
theorem Pure.fOp (f : Nat) (hf : f < 10) {g : Nat} (h : o.op = .fieldAddr 30 a f) (ha : e a = .pointer (some ⟨g, 0, none⟩)) : Pure e o (.pointer (some ⟨g, f, none⟩)) := fun w => by
 have hu := Tryz.underlying30
 have hf' : f = 0 ∨ f = 1 ∨ f = 2 ∨ f = 3 ∨ f = 4 ∨ f = 5 ∨ f = 6 ∨ f = 7 ∨ f = 8 ∨ f = 9 := by omega
 unfold execOp
 rcases hf' with rfl | rfl | rfl | rfl | rfl | rfl | rfl | rfl | rfl | rfl <;> constructor <;> simp [go_sem, h, ha, hu]
theorem Pure.q4x (h : o.op = .build 36 #[]) : Pure e o (.agg #[.slice none 0 0, .slice none 0 0, .slice none 0 0, .bool false]) := fun w => by
 unfold execOp
 simp only [h]
 constructor
 ·kernel_rfl
 ·kernel_rfl
end
theorem VR.move {F : FuncId → Prop} {ρ : Rel} {g o1 o2 : Nat} (h : VR F ρ (.pointer (some ⟨g, o1, none⟩)) (.pointer (some ⟨g, o1, none⟩))) : VR F ρ (.pointer (some ⟨g, o2, none⟩)) (.pointer (some ⟨g, o2, none⟩)) := by
 cases h with
 |ptr r => exact .ptr r
section
variable {N : Blocks} {kv : List Value} {cs cs1 : List Frame} {w : World} {Z : Frame → World → Prop} {b : Frame} {k : List Item} {n i j : Nat} {x : Nat → Value} {ops : Array Oper} {td : List Nat} {o : Oper} {ty : TypeId} {a : Nat} {g f : Nat}
theorem qf.qid {v : Value} (hbl : blG b.fn = true) (hk : b.kind ≠ .early) (ho : ops[i]? = some o) (hop : o.op = .load ty (.tmp a)) (hd : o.dst = some j) (hw : Region.wanted o (yielded ops (lay n x)) = true) (ha : a < n) (hx : x a = .pointer (some ⟨g, f, none⟩))
  (hkv : .pointer (some ⟨g, 0, none⟩) ∈ kv) (hA : ∀ w, (isAgg ty).run Tryz.prog w = .ok false w) (hc : w.cell? ⟨g, f, none⟩ = some v)
  (nx : qf N kv cs (b.at ⟨lay n (upd x j v), []⟩ (.inRegion ops td :: k)) w cs1 Z) : qf N kv cs (b.at ⟨lay n x, []⟩ (.inRegion ops (i :: td) :: k)) w cs1 Z := by
 have hok : qa0 XG.P XG.P' fb true o = true := by unfold qa0; rw [hop]; rfl
 have he : (Act.mk (lay n x) []).eval (.tmp a) = ek [(a, .pointer (some ⟨g, f, none⟩))] (.tmp a) := by rw [show (Act.mk (lay n x) []).eval (.tmp a) = x a from qfm ha, hx]; simp [ek]
 refine qf.qv3 (e := ek [(a, .pointer (some ⟨g, f, none⟩))]) (R := fun v' w1 => v' = v ∧ Same w w1) hbl hk ho hok hw (by unfold execOp; simp only [hop]; rw [he]) (fun ρ hK => qoc fun p hp => ?_) (fun wc s => ?_) ?_
 ·rw [List.mem_singleton] at hp; subst hp; exact VR.move (hK _ hkv)
 ·refine ⟨v, wc, ?_, ⟨rfl, s⟩, jy _⟩
  have hc' : wc.cell? ⟨g, f, none⟩ = some v := (xcb (by rw [s.heap])).trans hc
  show (execOp _ o).run Tryz.prog wc = _
  unfold execOp
  simp [go_sem, hop, ek, hA, hc']
 ·rintro _ w1 ⟨rfl, s⟩
  rw [hd]
  show qf N kv cs (b.at ⟨(lay n x).setIfInBounds j _, []⟩ _) w1 cs1 Z
  rw [qbl]
  exact nx.same s
theorem qf.q4w {l : List Value} (hbl : blG b.fn = true) (hk : b.kind ≠ .early) (ho : ops[i]? = some o) (hop : o.op = .load ty (.tmp a)) (hd : o.dst = some j) (hw : Region.wanted o (yielded ops (lay n x)) = true) (ha : a < n) (hx : x a = .pointer (some ⟨g, 0, none⟩))
  (hkv : .pointer (some ⟨g, 0, none⟩) ∈ kv) (hA : ∀ w es, (isAgg ty).runT Tryz.prog w es = (.ok true w, es)) (hS : ∀ w es, (sizeOf ty).runT Tryz.prog w es = (.ok l.length w, es)) (hc : ∀ j v, l[j]? = some v → w.cell? ⟨g, j, none⟩ = some v)
  (nx : qf N kv cs (b.at ⟨lay n (upd x j (.agg l.toArray)), []⟩ (.inRegion ops td :: k)) w cs1 Z) : qf N kv cs (b.at ⟨lay n x, []⟩ (.inRegion ops (i :: td) :: k)) w cs1 Z := by
 have hok : qa0 XG.P XG.P' fb true o = true := by unfold qa0; rw [hop]; rfl
 have he : (Act.mk (lay n x) []).eval (.tmp a) = ek [(a, .pointer (some ⟨g, 0, none⟩))] (.tmp a) := by rw [show (Act.mk (lay n x) []).eval (.tmp a) = x a from qfm ha, hx]; simp [ek]
 refine qf.qv3 (e := ek [(a, .pointer (some ⟨g, 0, none⟩))]) (R := fun v' w1 => v' = .agg l.toArray ∧ Same w w1) hbl hk ho hok hw (by unfold execOp; simp only [hop]; rw [he]) (fun ρ hK => qoc fun p hp => ?_) (fun wc s => ?_) ?_
 ·rw [List.mem_singleton] at hp; subst hp; exact hK _ hkv
 ·refine ⟨.agg l.toArray, wc, ?_, ⟨rfl, s⟩, jy _⟩
  obtain ⟨es1, h1, _⟩ := qih (P := Tryz.prog) (w := wc) (a := ⟨g, 0, none⟩) (ty := ty) l (hA _) (hS _) fun j v hj => by
   rw [Addr.add_lit, Nat.zero_add]
   exact (xcb (by rw [s.heap])).trans (hc j v hj)
  have h2 : (Instr.loadAt ty (.pointer (some ⟨g, 0, none⟩))).run Tryz.prog wc = .ok (.agg l.toArray) wc := by
   rw [← Sem.runT_fst Tryz.prog _ _ #[], h1]
  show (execOp _ o).run Tryz.prog wc = _
  unfold execOp
  simp only [hop]
  rw [show ek [(a, .pointer (some ⟨g, 0, none⟩))] (.tmp a) = .pointer (some ⟨g, 0, none⟩) by simp [ek]]
  simp only [Sem.run_bind, h2, Result.andThen_ok, Sem.run_pure]
 ·rintro _ w1 ⟨rfl, s⟩
  rw [hd]
  show qf N kv cs (b.at ⟨(lay n x).setIfInBounds j _, []⟩ _) w1 cs1 Z
  rw [qbl]
  exact nx.same s
theorem qf.qv0 {z : Value} (hbl : blG b.fn = true) (hk : b.kind ≠ .early) (ho : ops[i]? = some o) (hop : o.op = .alloc ty) (hd : o.dst = some j) (hw : Region.wanted o (yielded ops (lay n x)) = true) (hok : qa0 XG.P XG.P' fb true o = true) (hz : ∀ w, (zeroValue ty).run Tryz.prog w = .ok z w)
  (nx : qf N (.pointer (some ⟨w.heap.size, 0, none⟩) :: kv) cs (b.at ⟨lay n (upd x j (.pointer (some ⟨w.heap.size, 0, none⟩))), []⟩ (.inRegion ops td :: k)) (w.alloc (.cells z.cells ty)) cs1 Z) : qf N kv cs (b.at ⟨lay n x, []⟩ (.inRegion ops (i :: td) :: k)) w cs1 Z := by
 refine qf.blind (e := ek []) (R := fun v' w1 => v' = .pointer (some ⟨w.heap.size, 0, none⟩) ∧ Same (w.alloc (.cells z.cells ty)) w1) hbl hk ho hok hw (by unfold execOp; simp only [hop]) (fun ρ hK => qoc fun p hp => (by cases hp)) (fun wc s => ?_) ?_
 ·refine ⟨_, wc.alloc (.cells z.cells ty), ?_, ⟨rfl, ⟨?_, s.os, s.output⟩⟩, by simp⟩
  ·rw [← s.heap]
   show (execOp _ o).run Tryz.prog wc = _
   unfold execOp
   simp [go_sem, hop, Instr.alloc, hz]
  ·show wc.heap.push _ = w.heap.push _
   rw [s.heap]
 ·rintro _ w1 ⟨rfl, s⟩
  rw [hd]
  show qf N _ cs (b.at ⟨(lay n x).setIfInBounds j _, []⟩ _) w1 cs1 Z
  rw [qbl]
  exact nx.same s
theorem qf.bbox {l : List Value} (hbl : blG b.fn = true) (hk : b.kind ≠ .early) (ho : ops[i]? = some o) (hop : o.op = .box ty (.tmp a)) (hd : o.dst = some j) (hw : Region.wanted o (yielded ops (lay n x)) = true) (ha : a < n) (hx : x a = .agg l.toArray) (hl : ∀ ρ, VR XG.F ρ (.agg l.toArray) (.agg l.toArray))
  (nx : qf N (.pointer (some ⟨w.heap.size, 0, none⟩) :: kv) cs (b.at ⟨lay n (upd x j (.pointer (some ⟨w.heap.size, 0, none⟩))), []⟩ (.inRegion ops td :: k)) (w.alloc (.cells l.toArray ty)) cs1 Z) : qf N kv cs (b.at ⟨lay n x, []⟩ (.inRegion ops (i :: td) :: k)) w cs1 Z := by
 have hok : qa0 XG.P XG.P' fb true o = true := by unfold qa0; rw [hop]; rfl
 have he : (Act.mk (lay n x) []).eval (.tmp a) = ek [(a, .agg l.toArray)] (.tmp a) := by rw [show (Act.mk (lay n x) []).eval (.tmp a) = x a from qfm ha, hx]; simp [ek]
 refine qf.blind (e := ek [(a, .agg l.toArray)]) (R := fun v' w1 => v' = .pointer (some ⟨w.heap.size, 0, none⟩) ∧ Same (w.alloc (.cells l.toArray ty)) w1) hbl hk ho hok hw (by unfold execOp; simp only [hop]; rw [he]) (fun ρ hK => qoc fun p hp => ?_) (fun wc s => ?_) ?_
 ·rw [List.mem_singleton] at hp; subst hp; exact hl ρ
 ·refine ⟨_, wc.alloc (.cells l.toArray ty), ?_, ⟨rfl, ⟨?_, s.os, s.output⟩⟩, by simp⟩
  ·rw [← s.heap]
   show (execOp _ o).run Tryz.prog wc = _
   unfold execOp
   simp [go_sem, hop, Instr.box, ek, Value.cells]
  ·show wc.heap.push _ = w.heap.push _
   rw [s.heap]
 ·rintro _ w1 ⟨rfl, s⟩
  rw [hd]
  show qf N _ cs (b.at ⟨(lay n x).setIfInBounds j _, []⟩ _) w1 cs1 Z
  rw [qbl]
  exact nx.same s
theorem qf.qv5 {c : Nat} {l z : List Value} {w0 : World} (hbl : blG b.fn = true) (hk : b.kind ≠ .early) (ho : ops[i]? = some o) (hop : o.op = .store ty (.tmp a) (.tmp c)) (hd : o.dst = none) (hw : Region.wanted o (yielded ops (lay n x)) = true) (ha : a < n) (hx : x a = .pointer (some ⟨w0.heap.size, 0, none⟩)) (hcn : c < n) (hxc : x c = .agg l.toArray)
  (hkv : .pointer (some ⟨w0.heap.size, 0, none⟩) ∈ kv) (hl : ∀ ρ, VR XG.F ρ (.agg l.toArray) (.agg l.toArray)) (hw0 : w = w0.alloc (.cells z.toArray ty)) (hi : (Tryz.prog.info? ty).map (·.size) = some l.length) (hz : z.length = l.length) (h1 : l.all (·.oneCell') = true)
  (nx : qf N kv cs (b.at ⟨lay n x, []⟩ (.inRegion ops td :: k)) (w0.alloc (.cells l.toArray ty)) cs1 Z) : qf N kv cs (b.at ⟨lay n x, []⟩ (.inRegion ops (i :: td) :: k)) w cs1 Z := by
 have hok : qa0 XG.P XG.P' fb true o = true := by unfold qa0; rw [hop]; rfl
 subst hw0
 by_cases hac : a = c
 ·subst hac
  rw [hx] at hxc; cases hxc
 have he : (Act.mk (lay n x) []).eval (.tmp a) = ek [(a, .pointer (some ⟨w0.heap.size, 0, none⟩)), (c, .agg l.toArray)] (.tmp a) := by rw [show (Act.mk (lay n x) []).eval (.tmp a) = x a from qfm ha, hx]; simp [ek]
 have hca : (c == a) = false := by simpa using fun e => hac e.symm
 have hec : ek [(a, .pointer (some ⟨w0.heap.size, 0, none⟩)), (c, .agg l.toArray)] (.tmp c) = .agg l.toArray := by simp [ek, List.lookup_cons, hca]
 refine qf.q4v (e := ek [(a, .pointer (some ⟨w0.heap.size, 0, none⟩)), (c, .agg l.toArray)]) (R := fun w1 => Same (w0.alloc (.cells l.toArray ty)) w1) hbl hk ho hok hw (by unfold execOp; simp only [hop]; rw [he, hec, show (Act.mk (lay n x) []).eval (.tmp c) = .agg l.toArray from (qfm hcn).trans hxc]) (fun ρ hK => qoc fun p hp => ?_) (fun wc s => ?_) ?_
 ·simp only [List.mem_cons, List.not_mem_nil, or_false] at hp
  rcases hp with rfl | rfl
  ·exact hK _ hkv
  ·exact hl ρ
 ·have hb : wc.heap[w0.heap.size]? = some (.cells z.toArray ty (0, 0)) := by rw [s.heap]; exact heap_alloc_new _ _
  have hst := run_storeVar_row (P := Tryz.prog) wc w0.heap.size ty ty z.toArray l.toArray hb (by simpa using hi) (by simpa using hz) (by simpa using h1)
  refine ⟨wc.setRow w0.heap.size l.toArray, ?_, ⟨?_, ?_, ?_⟩, ?_⟩
  ·show (execOp _ o).run Tryz.prog wc = _
   unfold execOp
   simp only [hop]
   rw [hec, show ek [(a, .pointer (some ⟨w0.heap.size, 0, none⟩)), (c, .agg l.toArray)] (.tmp a) = .pointer (some ⟨w0.heap.size, 0, none⟩) by simp [ek]]
   simp only [Instr.storeAt, Instr.sureAddr, Sem.run_bind, Sem.run_pure, Result.andThen_ok, hst]
  ·apply Array.ext_getElem?
   intro m
   by_cases e : m = w0.heap.size
   ·subst e
    rw [setRow_heap wc _ _ _ _ _ hb]
    exact (heap_alloc_new _ _).symm
   ·rw [setRow_other wc _ _ _ e, s.heap]
    show (w0.heap.push _)[m]? = (w0.heap.push _)[m]?
    rw [Array.getElem?_push, Array.getElem?_push, if_neg e, if_neg e]
  ·exact s.os
  ·exact s.output
  ·simp [World.setRow]
 ·intro w1 s
  rw [hd]
  exact nx.same s
end
abbrev fM : FuncId := 10
def bM : Frame := base fM
theorem zq : blG bM.fn = true := rfl
theorem qas : bM.kind ≠ .early := by decide
noncomputable def mB : Code := (Tryz.f10.body).getD .skip
noncomputable def mL : Code := match mB with | .seq _ (.seq _ (.seq (.seq _ (.block _ (.loop c))) _)) => c | _ => .skip
noncomputable def mI : Code := match mL with | .seq _ (.seq _ (.seq (.block _ c) _)) => c | _ => .skip
noncomputable def M0 : Array Oper := match mB with | .seq a _ => rg a | _ => #[]
noncomputable def M1 : Array Oper := match mB with | .seq _ (.seq a _) => rg a | _ => #[]
noncomputable def M2 : Array Oper := match mB with | .seq _ (.seq _ (.seq (.seq a _) _)) => rg a | _ => #[]
noncomputable def M9 : Array Oper := match mB with | .seq _ (.seq _ (.seq _ (.seq a _))) => rg a | _ => #[]
noncomputable def M3 : Array Oper := match mL with | .seq a _ => rg a | _ => #[]
noncomputable def M8 : Array Oper := match mL with | .seq _ (.seq _ (.seq _ a)) => rg a | _ => #[]
noncomputable def M4 : Array Oper := match mI with | .seq a _ => rg a | _ => #[]
noncomputable def M5 : Array Oper := match mI with | .seq _ (.seq a _) => rg a | _ => #[]
noncomputable def M6 : Array Oper := match mI with | .seq _ (.seq _ (.seq a _)) => rg a | _ => #[]
noncomputable def M7 : Array Oper := match mI with | .seq _ (.seq _ (.seq _ (.cond _ (.seq a _) _))) => rg a | _ => #[]
theorem jay : mB = .seq (.region 0 M0 false) (.seq (.region 1 M1 false) (.seq (.seq (.region 2 M2 false) (.block 0 (.loop mL))) (.seq (.region 9 M9 false) .ret))) := rfl
theorem q36 : mL = .seq (.region 3 M3 false) (.seq (.cond (.tmp 11) .skip (.exit 0)) (.seq (.block 1 mI) (.region 8 M8 false))) := rfl
theorem jaz : mI = .seq (.region 4 M4 false) (.seq (.region 5 M5 false) (.seq (.region 6 M6 false) (.cond (.tmp 28) (.seq (.region 7 M7 false) .ret) .skip))) := rfl
structure yj (n0 : Nat) (w : World) (sp : Option Addr) (L : Nat) (os : Nat → OpV) : Prop where
 at' : 0 < L → ∃ g o0, sp = some ⟨g, o0, none⟩ ∧ g < n0 ∧ g < w.heap.size ∧ ∀ i, i < L → ∀ (j : Nat) v, (os i).cells.toList[j]? = some v → w.cell? ⟨g, o0 + i * 10 + j, none⟩ = some v
 ok : ∀ i, i < L → OpV.Ok (os i)
 len : L ≤ 140737488355328
theorem yj.but {n0 L : Nat} {w w' : World} {sp : Option Addr} {os : Nat → OpV} (h : yj n0 w sp L os) (hb : But (fun b => n0 ≤ b) w w') : yj n0 w' sp L os := by
 refine ⟨fun hL => ?_, h.ok, h.len⟩
 obtain ⟨g, o0, h1, h2, h3, h4⟩ := h.at' hL
 refine ⟨g, o0, h1, h2, xll h3 hb.size, fun i hi j v hj => ?_⟩
 exact (xcb (hb.keep g h3 (by omega))).trans (h4 i hi j v hj)
theorem qvx : ∀ (w : World) (es : Array Event), (isAgg 30).runT XG.P w es = (.ok true w, es) := fun w es => by
 have hu := Tryz.underlying30
 show (isAgg _).runT Tryz.prog w es = _
 simp [isAgg, go_sem, Sem.runT_eq, hu]
theorem qra : (Tryz.prog.info? 30).map (fun i => (i.zero, i.size)) = some (some (.agg #[.int .i64 0, .int .i64 0, .int .i64 0, .int .i64 0, .int .i64 0, .int .i64 0, .int .i64 0, .string ⟨#[]⟩, .string ⟨#[]⟩, .string ⟨#[]⟩]), 10) := by kernel_rfl
theorem q6v : ∀ (w : World) (es : Array Event), (sizeOf 30).runT XG.P w es = (.ok 10 w, es) := fun w es => by
 obtain ⟨i, h1, h2⟩ := Option.map_eq_some_iff.1 qra
 injection h2 with _ h3
 show (sizeOf _).runT Tryz.prog w es = _
 simp [sizeOf, typeInfo, go_sem, Sem.runT_eq, h1, h3]
theorem qzw (w : World) : (zeroValue 30).run Tryz.prog w = .ok (.agg #[.int .i64 0, .int .i64 0, .int .i64 0, .int .i64 0, .int .i64 0, .int .i64 0, .int .i64 0, .string ⟨#[]⟩, .string ⟨#[]⟩, .string ⟨#[]⟩]) w := (zero_of_info qra).1 w
theorem qzi : (Tryz.prog.info? 30).map (·.size) = some 10 := (zero_of_info qra).2
theorem qyk (o : OpV) (F : FuncId → Prop) (ρ : Rel) : VR F ρ (.agg o.cells.toList.toArray) (.agg o.cells.toList.toArray) :=
 .agg (.cons (.int _ _) (.cons (.int _ _) (.cons (.int _ _) (.cons (.int _ _) (.cons (.int _ _) (.cons (.int _ _) (.cons (.int _ _) (.cons (.string _) (.cons (.string _) (.cons (.string _) .nil))))))))))
theorem qq5 (w : World) : (isAgg 9).run Tryz.prog w = .ok false w := by
 have hu := Tryz.underlying9
 simp [isAgg, go_sem, hu]
theorem qkc (w : World) : (isAgg 3).run Tryz.prog w = .ok false w := by
 have hu := Tryz.underlying3
 simp [isAgg, go_sem, hu]
section
variable {N : Blocks} {kv : List Value} {cs cs1 : List Frame} {w : World} {Z : Frame → World → Prop} {K : List Item} {n i j : Nat} {x : Nat → Value}
theorem qf.q2d {f : FuncId} {fn : Func} {R : Value → World → Prop} {v : Value} (hf : XG.P.funcs[f]? = some fn) (hres : ∀ w, (results fn (lay n x)).runT XG.P w #[] = (.ok v w, #[])) (hvr : ∀ ρ, VR XG.F ρ v v) (hR : ∀ wc, Same w wc → R v wc) :
  qf N kv cs ((base f).at ⟨lay n x, []⟩ (.code .ret :: K)) w cs (Ret f R) :=
 qf.ret fun wc hs => ⟨rfl, v, ⟨rfl, rfl, rfl, fn, hf, hres⟩, fun ρ _ => hvr ρ, hR wc hs⟩
theorem qmf : ∀ {x : Nat → Value} {v : Value}, x 2 = v → ∀ w, (results Tryz.f10 (lay 32 x)).runT XG.P w #[] = (.ok v w, #[]) := fun {x v} h w => by
 have e : Tryz.f10.results = #[.tmp 2] := rfl
 have e2 : (lay 32 x)[2]? = some v := by rw [qi3 (by decide), h]
 show (results _ _).runT Tryz.prog w #[] = _
 simp [results, e, go_sem, Array.getD_eq_getD_getElem?, e2]
end
section
variable {N : Blocks} {kv : List Value} {cs cs1 : List Frame} {w : World} {Z : Frame → World → Prop} {K : List Item} {x : Nat → Value} {sp : Option Addr} {L cp i ob n0 : Nat} {m : Int} {o : OpV}
theorem m0 (h0 : x 0 = .slice sp L cp)  (nx : ∀ y : Nat → Value, y 0 = .slice sp L cp → qf N kv cs (bM.at ⟨lay 32 y, []⟩ K) w cs1 Z) : qf N kv cs (bM.at ⟨lay 32 x, []⟩ (.code (.region 0 M0 false) :: K)) w cs1 Z := by
 refine qf.region ?_
 change qf N kv cs (bM.at ⟨lay 32 x, []⟩ (.inRegion M0 [0] :: K)) w cs1 Z
 refine qf.bv zq qas (.bool false) rfl rfl (qb rfl) (Pure.assign rfl rfl) ?_
 exact qf.regionEnd (nx _ h0)
theorem m1 (h0 : x 0 = .slice sp L cp)  (nx : ∀ y : Nat → Value, y 0 = .slice sp L cp → y 3 = .int .i64 L → qf N kv cs (bM.at ⟨lay 32 y, []⟩ K) w cs1 Z) : qf N kv cs (bM.at ⟨lay 32 x, []⟩ (.code (.region 1 M1 false) :: K)) w cs1 Z := by
 refine qf.region ?_
 change qf N kv cs (bM.at ⟨lay 32 x, []⟩ (.inRegion M1 [0, 1, 2] :: K)) w cs1 Z
 refine qf.bv zq qas (.slice sp L cp) rfl rfl (qb rfl) (Pure.move rfl (qp h0)) ?_
 refine qf.bv zq qas (.int .i64 L) rfl rfl (qb rfl) (Pure.q5o rfl (qp rfl)) ?_
 refine qf.bv zq qas (.int .i64 L) rfl rfl (qb rfl) (Pure.assign rfl (qp rfl)) ?_
 exact qf.regionEnd (nx _ h0 rfl)
theorem m2 (h0 : x 0 = .slice sp L cp) (h3 : x 3 = .int .i64 L)  (nx : ∀ y : Nat → Value, y 3 = .int .i64 L → y 8 = .slice sp L cp → y 9 = .int .i64 L → y 10 = .int .i64 (0 : Nat) → qf N kv cs (bM.at ⟨lay 32 y, []⟩ K) w cs1 Z) : qf N kv cs (bM.at ⟨lay 32 x, []⟩ (.code (.region 2 M2 false) :: K)) w cs1 Z := by
 refine qf.region ?_
 change qf N kv cs (bM.at ⟨lay 32 x, []⟩ (.inRegion M2 [0, 1, 2] :: K)) w cs1 Z
 refine qf.bv zq qas (.slice sp L cp) rfl rfl (qb rfl) (Pure.move rfl (qp h0)) ?_
 refine qf.bv zq qas (.int .i64 L) rfl rfl (qb rfl) (Pure.q5o rfl (qp rfl)) ?_
 refine qf.bv zq qas (.int .i64 0) rfl rfl (qb rfl) (Pure.move rfl rfl) ?_
 exact qf.regionEnd (nx _ h3 rfl rfl rfl)
theorem m3 (h3 : x 3 = .int .i64 m) (h8 : x 8 = .slice sp L cp) (h9 : x 9 = .int .i64 L) (h10 : x 10 = .int .i64 i) {t : Bool} (ht : decide ((i : Int) < L) = t) (nx : ∀ y : Nat → Value, y 3 = .int .i64 m → y 8 = .slice sp L cp → y 9 = .int .i64 L → y 10 = .int .i64 i → y 11 = .bool t → qf N kv cs (bM.at ⟨lay 32 y, []⟩ K) w cs1 Z) : qf N kv cs (bM.at ⟨lay 32 x, []⟩ (.code (.region 3 M3 false) :: K)) w cs1 Z := by
 refine qf.region ?_
 change qf N kv cs (bM.at ⟨lay 32 x, []⟩ (.inRegion M3 [0] :: K)) w cs1 Z
 refine qf.bv zq qas (.bool t) rfl rfl (qb rfl) (Pure.lss rfl (qp h10) (qp h9) ht) ?_
 exact qf.regionEnd (nx _ h3 h8 h9 h10 rfl)
theorem m4 {g o0 : Nat} (h3 : x 3 = .int .i64 m) (h8 : x 8 = .slice (some ⟨g, o0, none⟩) L cp) (h9 : x 9 = .int .i64 L) (h10 : x 10 = .int .i64 i) (hi : i < L) (hN : N g) (hlt : g < w.heap.size) (hc : ∀ (j : Nat) v, o.cells.toList[j]? = some v → w.cell? ⟨g, o0 + i * 10 + j, none⟩ = some v)
  (nx : ∀ y : Nat → Value, y 3 = .int .i64 m → y 8 = .slice (some ⟨g, o0, none⟩) L cp → y 9 = .int .i64 L → y 10 = .int .i64 i → y 5 = .pointer (some ⟨w.heap.size, 0, none⟩) → qf N (.pointer (some ⟨w.heap.size, 0, none⟩) :: kv) cs (bM.at ⟨lay 32 y, []⟩ K) (w.alloc (.cells o.cells 30)) cs1 Z) :
  qf N kv cs (bM.at ⟨lay 32 x, []⟩ (.code (.region 4 M4 false) :: K)) w cs1 Z := by
 refine qf.region ?_
 change qf N kv cs (bM.at ⟨lay 32 x, []⟩ (.inRegion M4 [0, 1, 2, 3] :: K)) w cs1 Z
 refine qf.bv zq qas (.pointer (some ⟨g, o0 + i * 10, none⟩)) rfl rfl (qb rfl) (Pure.idx rfl (qp h8) (qp h10) hi) ?_
 refine qf.look (l := o.cells.toList) zq qas rfl rfl (qb rfl) (qp rfl) hN qvx q6v hlt (fun j v hj => by rw [Addr.add_lit]; exact hc j v hj) (fun ρ => qyk o _ ρ) ?_
 change qf N kv cs (bM.at ⟨(lay 32 _).setIfInBounds 13 _, []⟩ _) w cs1 Z
 rw [qbl]
 refine qf.qv0 zq qas rfl rfl rfl (qb rfl) (by kernel_rfl) qzw ?_
 refine qf.qv5 (w0 := w) (z := [.int .i64 0, .int .i64 0, .int .i64 0, .int .i64 0, .int .i64 0, .int .i64 0, .int .i64 0, .string ⟨#[]⟩, .string ⟨#[]⟩, .string ⟨#[]⟩]) (l := o.cells.toList) zq qas rfl rfl rfl (qb rfl) (by decide) rfl (by decide) rfl (.head _) (fun ρ => qyk o _ ρ) rfl qzi rfl rfl ?_
 exact qf.regionEnd (nx _ h3 h8 h9 h10 rfl)
theorem m5 (h3 : x 3 = .int .i64 m) (h5 : x 5 = .pointer (some ⟨ob, 0, none⟩)) (h8 : x 8 = .slice sp L cp) (h9 : x 9 = .int .i64 L) (h10 : x 10 = .int .i64 i) (hkv : .pointer (some ⟨ob, 0, none⟩) ∈ kv) (c7 : w.cell? ⟨ob, 7, none⟩ = some (.string o.s)) (c8 : w.cell? ⟨ob, 8, none⟩ = some (.string o.t)) (c9 : w.cell? ⟨ob, 9, none⟩ = some (.string o.u)) (hm : 0 ≤ m) (hm2 : m ≤ 4611686018427387904) (hs : o.s.size ≤ 281474976710656) (ht : o.t.size ≤ 281474976710656) (hu : o.u.size ≤ 281474976710656) (nx : ∀ y : Nat → Value, y 3 = .int .i64 (m + (o.s.size + o.t.size + o.u.size)) → y 8 = .slice sp L cp → y 9 = .int .i64 L → y 10 = .int .i64 i → qf N kv cs (bM.at ⟨lay 32 y, []⟩ K) w cs1 Z) : qf N kv cs (bM.at ⟨lay 32 x, []⟩ (.code (.region 5 M5 false) :: K)) w cs1 Z := by
 refine qf.region ?_
 change qf N kv cs (bM.at ⟨lay 32 x, []⟩ (.inRegion M5 [0, 1, 2, 3, 4, 5, 6, 7, 8, 9, 10, 11, 12, 13] :: K)) w cs1 Z
 refine qf.bv zq qas (.int .i64 m) rfl rfl (qb rfl) (Pure.move rfl (qp h3)) ?_
 refine qf.bv zq qas (.pointer (some ⟨ob, 7, none⟩)) rfl rfl (qb rfl) (Pure.fOp 7 (by decide) rfl (qp h5)) ?_
 refine qf.qid zq qas rfl rfl rfl (qb rfl) (by decide) rfl hkv qq5 c7 ?_
 refine qf.bv zq qas (.int .i64 o.s.size) rfl rfl (qb rfl) (Pure.q5p rfl (qp rfl)) ?_
 refine qf.bv zq qas (.pointer (some ⟨ob, 8, none⟩)) rfl rfl (qb rfl) (Pure.fOp 8 (by decide) rfl (qp h5)) ?_
 refine qf.qid zq qas rfl rfl rfl (qb rfl) (by decide) rfl hkv qq5 c8 ?_
 refine qf.bv zq qas (.int .i64 o.t.size) rfl rfl (qb rfl) (Pure.q5p rfl (qp rfl)) ?_
 refine qf.bv zq qas (.int .i64 (o.s.size + o.t.size)) rfl rfl (qb rfl) (Pure.add rfl (qp rfl) (qp rfl) (by omega) (by omega)) ?_
 refine qf.bv zq qas (.pointer (some ⟨ob, 9, none⟩)) rfl rfl (qb rfl) (Pure.fOp 9 (by decide) rfl (qp h5)) ?_
 refine qf.qid zq qas rfl rfl rfl (qb rfl) (by decide) rfl hkv qq5 c9 ?_
 refine qf.bv zq qas (.int .i64 o.u.size) rfl rfl (qb rfl) (Pure.q5p rfl (qp rfl)) ?_
 refine qf.bv zq qas (.int .i64 (o.s.size + o.t.size + o.u.size)) rfl rfl (qb rfl) (Pure.add rfl (qp rfl) (qp rfl) (by omega) (by omega)) ?_
 refine qf.bv zq qas (.int .i64 (m + (o.s.size + o.t.size + o.u.size))) rfl rfl (qb rfl) (Pure.add rfl (qp rfl) (qp rfl) (by omega) (by omega)) ?_
 refine qf.bv zq qas (.int .i64 (m + (o.s.size + o.t.size + o.u.size))) rfl rfl (qb rfl) (Pure.assign rfl (qp rfl)) ?_
 exact qf.regionEnd (nx _ rfl h8 h9 h10)
theorem m6 (h3 : x 3 = .int .i64 m) (h8 : x 8 = .slice sp L cp) (h9 : x 9 = .int .i64 L) (h10 : x 10 = .int .i64 i) {t : Bool} (ht : decide (262144 < m) = t) (nx : ∀ y : Nat → Value, y 3 = .int .i64 m → y 8 = .slice sp L cp → y 9 = .int .i64 L → y 10 = .int .i64 i → y 28 = .bool t → qf N kv cs (bM.at ⟨lay 32 y, []⟩ K) w cs1 Z) : qf N kv cs (bM.at ⟨lay 32 x, []⟩ (.code (.region 6 M6 false) :: K)) w cs1 Z := by
 refine qf.region ?_
 change qf N kv cs (bM.at ⟨lay 32 x, []⟩ (.inRegion M6 [0, 1] :: K)) w cs1 Z
 refine qf.bv zq qas (.int .i64 m) rfl rfl (qb rfl) (Pure.move rfl (qp h3)) ?_
 refine qf.bv zq qas (.bool t) rfl rfl (qb rfl) (Pure.gtr rfl (qp rfl) rfl ht) ?_
 exact qf.regionEnd (nx _ h3 h8 h9 h10 rfl)
theorem m7   (nx : ∀ y : Nat → Value, y 2 = .bool false → qf N kv cs (bM.at ⟨lay 32 y, []⟩ K) w cs1 Z) : qf N kv cs (bM.at ⟨lay 32 x, []⟩ (.code (.region 7 M7 false) :: K)) w cs1 Z := by
 refine qf.region ?_
 change qf N kv cs (bM.at ⟨lay 32 x, []⟩ (.inRegion M7 [0] :: K)) w cs1 Z
 refine qf.bv zq qas (.bool false) rfl rfl (qb rfl) (Pure.assign rfl rfl) ?_
 exact qf.regionEnd (nx _ rfl)
theorem m8 (h3 : x 3 = .int .i64 m) (h8 : x 8 = .slice sp L cp) (h9 : x 9 = .int .i64 L) (h10 : x 10 = .int .i64 i) (hi : i ≤ 4611686018427387904) (nx : ∀ y : Nat → Value, y 3 = .int .i64 m → y 8 = .slice sp L cp → y 9 = .int .i64 L → y 10 = .int .i64 (i + 1 : Int) → qf N kv cs (bM.at ⟨lay 32 y, []⟩ K) w cs1 Z) : qf N kv cs (bM.at ⟨lay 32 x, []⟩ (.code (.region 8 M8 false) :: K)) w cs1 Z := by
 refine qf.region ?_
 change qf N kv cs (bM.at ⟨lay 32 x, []⟩ (.inRegion M8 [0, 1] :: K)) w cs1 Z
 refine qf.bv zq qas (.int .i64 (i + 1 : Int)) rfl rfl (qb rfl) (Pure.add rfl (qp h10) rfl (by omega) (by omega)) ?_
 refine qf.bv zq qas (.int .i64 (i + 1 : Int)) rfl rfl (qb rfl) (Pure.move rfl (qp rfl)) ?_
 exact qf.regionEnd (nx _ h3 h8 h9 rfl)
theorem m9 (h3 : x 3 = .int .i64 m) {t : Bool} (ht : decide (m ≤ 262144) = t) (nx : ∀ y : Nat → Value, y 2 = .bool t → qf N kv cs (bM.at ⟨lay 32 y, []⟩ K) w cs1 Z) : qf N kv cs (bM.at ⟨lay 32 x, []⟩ (.code (.region 9 M9 false) :: K)) w cs1 Z := by
 refine qf.region ?_
 change qf N kv cs (bM.at ⟨lay 32 x, []⟩ (.inRegion M9 [0, 1, 2] :: K)) w cs1 Z
 refine qf.bv zq qas (.int .i64 m) rfl rfl (qb rfl) (Pure.move rfl (qp h3)) ?_
 refine qf.bv zq qas (.bool t) rfl rfl (qb rfl) (Pure.leq rfl (qp rfl) rfl ht) ?_
 refine qf.bv zq qas (.bool t) rfl rfl (qb rfl) (Pure.assign rfl (qp rfl)) ?_
 exact qf.regionEnd (nx _ rfl)
theorem q5r {os : Nat → OpV} {w0 : World} {R : Value → World → Prop} (hN : ∀ g, g < n0 → N g) (hS : yj n0 w0 sp L os) (hn0 : n0 ≤ w0.heap.size) (hR : ∀ (t : Bool) w', (t = true → L ≤ 262144) → But (fun _ => False) w0 w' → R (.bool t) w') :
  ∀ (d i : Nat) (m : Int) (x : Nat → Value) (kv : List Value) (w : World), d = L - i → i ≤ L → (L : Int) ≤ m → m ≤ 4611686018427387904 → (m = L ∨ m ≤ 262144) → But (fun _ => False) w0 w → x 3 = .int .i64 m → x 8 = .slice sp L cp → x 9 = .int .i64 L → x 10 = .int .i64 i →
   qf N kv cs (bM.at ⟨lay 32 x, []⟩ (.code mL :: .inLoop mL :: .inBlock 0 :: .code (.seq (.region 9 M9 false) .ret) :: K)) w cs (Ret fM R) := by
 intro d
 induction d with
 |zero =>
  intro i m x kv w hd hi hLm hm hm2 hb h3 h8 h9 h10
  rw [q36]
  refine qf.seq (m3 h3 h8 h9 h10 (t := false) (xdf (by omega)) fun y y3 y8 y9 y10 y11 => ?_)
  refine qf.seq (qf.qdw (by decide) y11 ?_)
  refine qf.exit (k' := .code (.seq (.region 9 M9 false) .ret) :: K) rfl ?_
  refine qf.seq (m9 y3 rfl fun z z2 => ?_)
  refine qf.q2d Tryz.func10 (qmf z2) (fun ρ => .bool _) fun wc s => hR _ _ (fun ht => ?_) (hb.trans (But.same' s))
  have := of_decide_eq_true ht
  omega
 |succ d ih =>
  intro i m x kv w hd hi hLm hm hm2 hb h3 h8 h9 h10
  have hlen := hS.len
  have hil : i < L := by omega
  obtain ⟨g, o0, rfl, hg, hgw, hcell⟩ := hS.at' (by omega)
  have hok := hS.ok i hil
  rw [q36]
  refine qf.seq (m3 h3 h8 h9 h10 (t := true) (xdt (by omega)) fun y y3 y8 y9 y10 y11 => ?_)
  refine qf.seq (qf.qdw (by decide) y11 ?_)
  refine qf.skip ?_
  refine qf.seq (qf.block ?_)
  rw [jaz]
  refine qf.seq ?_
  refine m4 (o := os i) y3 y8 y9 y10 hil (hN g hg) (xll hgw hb.size) (fun j v hj => (xcb (hb.keep g hgw id)).trans (hcell i hil j v hj)) fun z z3 z8 z9 z10 z5 => ?_
  have hb2 : But (fun _ => False) w0 (w.alloc (.cells (os i).cells 30)) := hb.trans (But.of_below ((jo _ _).alloc (jy _) _))
  have hblk := heap_alloc_new w (.cells (os i).cells 30)
  have c7 : (w.alloc (.cells (os i).cells 30)).cell? ⟨w.heap.size, 7, none⟩ = some (.string (os i).s) := by unfold World.cell?; rw [hblk]; rfl
  have c8 : (w.alloc (.cells (os i).cells 30)).cell? ⟨w.heap.size, 8, none⟩ = some (.string (os i).t) := by unfold World.cell?; rw [hblk]; rfl
  have c9 : (w.alloc (.cells (os i).cells 30)).cell? ⟨w.heap.size, 9, none⟩ = some (.string (os i).u) := by unfold World.cell?; rw [hblk]; rfl
  have s1 := hok.s
  have s2 := hok.t
  have s3 := hok.u
  have hmb : m ≤ 281474976710656 := by omega
  refine qf.seq (m5 z3 z5 z8 z9 z10 (.head _) c7 c8 c9 (by omega) hm (by omega) (by omega) (by omega) fun a a3 a8 a9 a10 => ?_)
  refine qf.seq ?_
  by_cases hbig : 262144 < m + ((os i).s.size + (os i).t.size + (os i).u.size)
  ·refine m6 a3 a8 a9 a10 (t := true) (xdt hbig) fun c c3 c8 c9 c10 c28 => ?_
   refine qf.qdw (by decide) c28 ?_
   refine qf.seq (m7 fun e e2 => ?_)
   exact qf.q2d Tryz.func10 (qmf e2) (fun ρ => .bool _) fun wc s => hR _ _ (fun ht => by cases ht) (hb2.trans (But.same' s))
  ·refine m6 a3 a8 a9 a10 (t := false) (xdf hbig) fun c c3 c8 c9 c10 c28 => ?_
   refine qf.qdw (by decide) c28 ?_
   refine qf.skip (qf.inBlock ?_)
   refine m8 c3 c8 c9 c10 (by omega) fun e e3 e8 e9 e10 => ?_
   refine qf.inLoop ?_
   exact ih (i + 1) _ e _ _ (by omega) (by omega) (by omega) (by omega) (.inr (by omega)) hb2 e3 e8 e9 (by rw [e10]; rfl)
end
section
variable {kv : List Value} {w : World} {sp : Option Addr} {L cp n0 : Nat} {os : Nat → OpV} {N : Blocks}
theorem q8t (v : Value) (t : Array Value) : (#[v] ++ t).getD 0 undef = v := by
 rw [Array.getD_eq_getD_getElem?, Array.getElem?_append_left (by simp)]; rfl
theorem qoe {v : Value} : Frame.enter XG.P fM #[v] .normal = bM.at ⟨lay 32 (fun i => (#[v] ++ Array.replicate 31 undef).getD i undef), []⟩ [.code mB] := by
 show Frame.enter Tryz.prog fM _ .normal = _
 rw [enter_at _ Tryz.func10 (show Tryz.f10.body = some mB from rfl)]
 have hn : Tryz.f10.ntmps = 32 := rfl
 rw [hn, qel (by simp)]
 rfl
theorem q2q (hN : ∀ g, g < n0 → N g) (hS : yj n0 w sp L os) (hn0 : n0 ≤ w.heap.size) : qk2 N kv fM #[.slice sp L cp] w fun v w' => ∃ t, v = .bool t ∧ (t = true → L ≤ 262144) ∧ But (fun _ => False) w w' := fun ks => by
 rw [qoe, jay]
 refine qf.seq (m0 (sp := sp) (L := L) (cp := cp) (q8t _ _) fun y y0 => ?_)
 refine qf.seq (m1 y0 fun z z0 z3 => ?_)
 refine qf.seq (qf.seq (m2 z0 z3 fun a a3 a8 a9 a10 => ?_))
 refine qf.block (qf.loop ?_)
 have hl := hS.len
 exact q5r hN hS hn0 (fun t w' h1 h2 => ⟨t, rfl, h1, h2⟩) (L - 0) 0 L a _ _ rfl (xzl _) (Int.le_refl _) (by omega) (.inl rfl) (But.refl _ _) a3 a8 a9 a10
end
end Go.Proofs.YtkpekiajdlolnabGreat.Ph
namespace Go.Proofs.YtkpekiajdlolnabGreat
open Go.RowKit Go.Maps
section
variable {w : World}
def qf9 (a : Int) (n : Nat) : Nat := ((if a < 0 then -(a + 1) else a).toNat) % n
theorem q56 (a : Int) (n : Nat) (hn : 0 < n) (hn2 : n ≤ 4398046511104) (h1 : -9223372036854775808 ≤ a) (h2 : a ≤ 9223372036854775807) :
  Calls Tryz.prog 23 #[.int .i64 a, .int .i64 n] w fun e w' => (e = .returned (.int .i64 (qf9 a n : Nat)) ∧ w' = w) := by
 have hn0 : ¬ n = 0 := by omega
 by_cases h : a < 0
 ·have g1 : decide (a < 0) = true := xdt h
  obtain ⟨b, hb⟩ : ∃ b : Nat, -(a + 1) = b := ⟨(-(a + 1)).toNat, by omega⟩
  have hp : qf9 a n = b % n := by unfold qf9; rw [if_pos h, hb]; rfl
  rw [hp]
  obtain rfl : a = -(b : Int) - 1 := by omega
  clear hp hb
  go_enter Tryz.func23, Tryz.ntmps23
  go_wp2
  go_ret
  exact ⟨rfl, rfl⟩
 ·have g1 : decide (a < 0) = false := xdf h
  obtain ⟨b, rfl⟩ : ∃ b : Nat, a = b := ⟨a.toNat, by omega⟩
  have hp : qf9 b n = b % n := by unfold qf9; rw [if_neg h]; rfl
  rw [hp]
  clear hp
  go_enter Tryz.func23, Tryz.ntmps23
  go_wp2
  go_ret
  exact ⟨rfl, rfl⟩
theorem qzj (k : Int) (h : k ≤ 5) : Calls Tryz.prog 14 #[.int .i64 k] w fun e w' => (e = .returned (.int .i64 1) ∧ w' = w) := by
 have g1 : decide (k ≤ 5) = true := xdt h
 go_enter Tryz.func14, Tryz.ntmps14
 go_wp2
 go_ret
 exact ⟨rfl, rfl⟩
theorem qmg {v : Value} {l : KV} {base : Nat} (h : w.ownsRow base 74 2 v l.length (flat l)) {g : Nat} (hg : v.ownBlock = some g) {j : Nat} {p : Bs × Bs} (hp : l[j]? = some p) : w.cell? ⟨g, j * 2, none⟩ = some (sv p.1) ∧ w.cell? ⟨g, j * 2 + 1, none⟩ = some (sv p.2) := by
 obtain ⟨q1, q2⟩ := flat_get l j p hp
 have d1 := h.cells hg _ _ q1
 have d2 := h.cells hg _ _ q2
 rw [Addr.add_lit, Nat.zero_add] at d1 d2
 exact ⟨d1, d2⟩
theorem q6l {a b : Value} {l : KV} {ba bb : Nat} (ha : w.ownsRow ba 74 2 a l.length (flat l)) (hb : w.ownsRow bb 74 2 b l.length (flat l)) (hl : l.length ≤ 1073741824) : Calls Tryz.prog 29 #[a, b] w fun e w' => (e = .returned (.bool true) ∧ Below w.heap.size w w') := by
 obtain ⟨sa, ca, rfl⟩ : ∃ sa ca, a = .slice sa l.length ca := by
  rcases ha.2 with ⟨rfl, hz⟩ | ⟨g, cap, cur, rfl, _⟩
  ·exact ⟨none, 0, by rw [hz]⟩
  ·exact ⟨_, _, rfl⟩
 obtain ⟨sb, cb, rfl⟩ : ∃ sa ca, b = .slice sa l.length ca := by
  rcases hb.2 with ⟨rfl, hz⟩ | ⟨g, cap, cur, rfl, _⟩
  ·exact ⟨none, 0, by rw [hz]⟩
  ·exact ⟨_, _, rfl⟩
 have hsa : ∀ j, j < l.length → ∃ g, sa = some ⟨g, 0, none⟩ := fun j hj => by
  rcases ha.2 with ⟨h, hz⟩ | ⟨g, cap, cur, h, _⟩
  ·omega
  ·injection h with h1; exact ⟨g, h1⟩
 have hsb : ∀ j, j < l.length → ∃ g, sb = some ⟨g, 0, none⟩ := fun j hj => by
  rcases hb.2 with ⟨h, hz⟩ | ⟨g, cap, cur, h, _⟩
  ·omega
  ·injection h with h1; exact ⟨g, h1⟩
 have HA := Lib.hid ha
 have HB := Lib.hid hb
 have HSA := Lib.hid hsa
 have HSB := Lib.hid hsb
 clear ha hb hsa hsb
 by_cases hz : l.length = 0
 ·rw [hz]
  clear HA HB HSA HSB
  go_enter Tryz.func29, Tryz.ntmps29
  go_wp2
  refine wp_loop_rounds 1 ?_
  rw [rounds_succ]
  go_wp2
  go_ret
  exact ⟨rfl, jo _ _⟩
 obtain ⟨ga, rfl⟩ := HSA.out 0 (by omega)
 obtain ⟨gb, rfl⟩ := HSB.out 0 (by omega)
 clear HSA HSB
 go_enter Tryz.func29, Tryz.ntmps29
 go_wp2
 go_loopw [13] (fun x wr => ∃ j : Nat, j ≤ l.length ∧ x = .int .i64 j ∧ Below w.heap.size w wr) (fun x _ => l.length - (intOf x).toNat)
 case atStart => exact ⟨0, xzl _, rfl, jo _ _⟩
 case round =>
  obtain ⟨j, hj, rfl, hbw⟩ := hrel
  by_cases hjl : j < l.length
  ·obtain ⟨p, hp⟩ : ∃ p, l[j]? = some p := ⟨_, List.getElem?_eq_getElem hjl⟩
   obtain ⟨a1, a2⟩ := qmg HA.out (g := ga) rfl hp
   obtain ⟨b1, b2⟩ := qmg HB.out (g := gb) rfl hp
   have a1 := (hbw.cell (xbl w _ a1)).trans a1
   have a2 := (hbw.cell (xbl w _ a2)).trans a2
   have b1 := (hbw.cell (xbl w _ b1)).trans b1
   have b2 := (hbw.cell (xbl w _ b2)).trans b2
   unfold sv at a1 a2 b1 b2
   generalize (⟨p.1.toArray⟩ : ByteArray) = pk at *
   generalize (⟨p.2.toArray⟩ : ByteArray) = pv at *
   have hjz : (0 : Int) ≤ (j : Int) := by omega
   have hji : (j : Int) < ((l.length : Nat) : Int) := by omega
   go_wp2
   go_quiet (fail)
   go_wp2
   go_roundw
   case rel => exact ⟨j + 1, by omega, rfl, Below.drewN' hbw _⟩
   case measure => simp [intOf]; omega
  ·obtain rfl : j = l.length := by omega
   go_wp2
   go_ret
   exact ⟨rfl, hbw⟩
end
end Go.Proofs.YtkpekiajdlolnabGreat
namespace Go.Proofs.YtkpekiajdlolnabGreat.Ph
section
open Go.Conc Go.ConcN Go.RowKit Go.Maps Go.Conc.Lib Go Sim
section
variable {N : Blocks} {kv : List Value} {cs cs1 : List Frame} {w : World} {Z : Frame → World → Prop} {b : Frame} {k : List Item} {n i j : Nat} {x : Nat → Value} {ops : Array Oper} {td : List Nat} {o : Oper}
theorem qac {g j : Nat} {t : Bool} {og : Oper} (h : o.guard = some (g, t)) (hg : ops[g]? = some og) (hd : og.dst = some j) (hj : j < n) (hx : x j = undef) : Region.wanted o (yielded ops (lay n x)) = false := by
 unfold Region.wanted
 rw [h]
 have : yielded ops (lay n x) g = none := by
  unfold yielded
  rw [hg]
  simp only [Option.bind_some, hd, qi3 hj, hx]
  rfl
 simp only [this]
 rfl
theorem qf.qn6 {f : FuncId} {fn : Func} {args : Array Value} {R : Value → World → Prop} (ho : ops[i]? = some o) (hd : o.dst = some j) (hw : Region.wanted o (yielded ops (lay n x)) = true) (hk : b.kind ≠ .early)
  (ev : ∀ w, (execOp (evx n x) o).run XG.P w = .ok (.enter f args) w ∧ (execOp (evx n x) o).events XG.P w #[] = #[]) (hf : XG.P.funcs[f]? = some fn)
  (hargs : ∀ ρ, (∀ v ∈ kv, VR XG.F ρ v v) → jw XG.F ρ args.toList args.toList)
  (hcall : yu N kv f args w R) (nx : ∀ v w', R v w' → qf N kv cs (b.at ⟨lay n (upd x j v), []⟩ (.inRegion ops td :: k)) w' cs1 Z) : qf N kv cs (b.at ⟨lay n x, []⟩ (.inRegion ops (i :: td) :: k)) w cs1 Z := by
 refine qf.call ho hw hk ev hf (fun ρ _ hK _ => hargs ρ hK) hcall fun v w' hr => ?_
 rw [hd]
 show qf N kv cs (b.at ⟨(lay n x).setIfInBounds j v, []⟩ _) w' cs1 Z
 rw [qbl]
 exact nx v w' hr
theorem qeh {e : Operand → Value} {f : FuncId} {ars : Array Operand} {vs : Array Value} {tys : Array TypeId} (hop : o.op = .call { callee := .value (.func f), args := ars, argTypes := tys }) (hfun : e (.func f) = .func (.func f) #[] #[]) (ha : ars.toList.map e = vs.toList)
  (hc : ∀ w, (callFunc f vs).run Tryz.prog w = .ok (.enter f vs) w ∧ (callFunc f vs).events Tryz.prog w #[] = #[]) : ∀ w, (execOp e o).run XG.P w = .ok (.enter f vs) w ∧ (execOp e o).events XG.P w #[] = #[] := fun w => by
 have ha' : ars.map e = vs := by apply Array.ext'; simpa using ha
 have hx : execOp e o = callFunc f vs := by
  unfold execOp
  simp [go_sem, hop, resolve, invoke, hfun, ha']
 rw [hx]
 exact hc w
theorem qi6 {fn : Func} {r : Nat} (h : fn.results = #[.tmp r]) (T : Array Value) (w : World) : (results fn T).runT Tryz.prog w #[] = (.ok (T.getD r undef) w, #[]) := by
 simp [results, h, go_sem]
theorem yu.of1 {f : FuncId} {fn : Func} {args : Array Value} {R : Value → World → Prop} {r : Nat} (hbl : blG f = false) (hfb : fb f = true) (hfn : XG.P.funcs[f]? = some fn) (h : fn.results = #[.tmp r]) (hS : ∀ v w wc, Same w wc → R v w → R v wc)
  (hc : ∀ wc, Same w wc → Calls XG.P f args wc fun | .returned v, w' => R v w' | _, _ => False) : yu N kv f args w R :=
 yu.of hbl hfb hfn (fun T => ⟨_, fun w => qi6 h T w⟩) (fun ρ T v w hT hr => by
  have := congrArg Prod.fst (qi6 h T w)
  rw [Sem.runT_fst] at this
  have e : (results fn T).run XG.P w = .ok (T.getD r undef) w := this
  rw [hr] at e
  cases e
  exact hT.qjm r) hS hc
end
def kr (k : Int) : Int := if k ≤ 5 then 1 else if k ≤ 9 then 2 else if k = 10 ∨ k = 12 then 3 else 4
theorem q2u (w : World) (k : Int) : Calls Tryz.prog 14 #[.int .i64 k] w fun e w' => (e = .returned (.int .i64 (kr k)) ∧ w' = w) := by
 by_cases h5 : k ≤ 5
 ·rw [show kr k = 1 by unfold kr; rw [if_pos h5]]
  exact qzj k h5
 have g1 : decide (k ≤ 5) = false := xdf h5
 by_cases h9 : k ≤ 9
 ·have g2 : decide (k ≤ 9) = true := xdt h9
  rw [show kr k = 2 by unfold kr; rw [if_neg h5, if_pos h9]]
  clear h5 h9
  go_enter Tryz.func14, Tryz.ntmps14
  go_wp2
  go_ret
  exact ⟨rfl, rfl⟩
 have g2 : decide (k ≤ 9) = false := xdf h9
 by_cases h10 : k = 10
 ·subst h10
  rw [show kr 10 = 3 from rfl]
  clear h5 h9
  go_enter Tryz.func14, Tryz.ntmps14
  go_wp2
  go_ret
  exact ⟨rfl, rfl⟩
 by_cases h12 : k = 12
 ·subst h12
  rw [show kr 12 = 3 from rfl]
  clear h5 h9 h10
  go_enter Tryz.func14, Tryz.ntmps14
  go_wp2
  go_ret
  exact ⟨rfl, rfl⟩
 rw [show kr k = 4 by unfold kr; rw [if_neg h5, if_neg h9, if_neg (by omega)]]
 have g3 : decide (k = 10) = false := xdf h10
 have g4 : decide (k = 12) = false := xdf h12
 have g5 : (k == 10) = false := by simpa using h10
 have g6 : (k == 12) = false := by simpa using h12
 clear h5 h9 h10 h12
 go_enter Tryz.func14, Tryz.ntmps14
 go_wp2
 go_ret
 exact ⟨rfl, rfl⟩
section
variable {N : Blocks} {kv : List Value} {w : World}
abbrev fSt : FuncId := 14
theorem qpl (k : Int) : yu N kv fSt #[.int .i64 k] w fun v w' => v = .int .i64 (kr k) ∧ Same w w' :=
 yu.of1 (r := 2) rfl rfl Tryz.func14 rfl (fun v w1 wc s h => ⟨h.1, h.2.trans s⟩) fun wc s => (q2u wc k).mono fun e w' ⟨h1, h2⟩ => by subst h1; subst h2; exact ⟨rfl, s⟩
theorem qkq (vs : Array Value) (w : World) : (callFunc fSt vs).run Tryz.prog w = .ok (.enter fSt vs) w ∧ (callFunc fSt vs).events Tryz.prog w #[] = #[] := by
 have hf := Tryz.func14
 constructor <;> simp [callFunc, go_sem, hf, Tryz.f14]
theorem quy (vs : Array Value) (w : World) : (callFunc fT vs).run Tryz.prog w = .ok (.enter fT vs) w ∧ (callFunc fT vs).events Tryz.prog w #[] = #[] := by
 have hf := Tryz.func15
 constructor <;> simp [callFunc, go_sem, hf, Tryz.f15]
abbrev fLk : FuncId := 16
theorem qj9 (vs : Array Value) (w : World) : (callFunc fLk vs).run Tryz.prog w = .ok (.enter fLk vs) w ∧ (callFunc fLk vs).events Tryz.prog w #[] = #[] := by
 have hf := Tryz.func16
 constructor <;> simp [callFunc, go_sem, hf, Tryz.f16]
end
abbrev fU : FuncId := 11
def bU : Frame := base fU
theorem qi : blG bU.fn = true := rfl
theorem jc : bU.kind ≠ .early := by decide
noncomputable def uB : Code := (Tryz.f11.body).getD .skip
noncomputable def uL : Code := match uB with | .seq _ (.seq _ (.seq (.seq _ (.block _ (.loop c))) _)) => c | _ => .skip
noncomputable def uI : Code := match uL with | .seq _ (.seq _ (.seq (.block _ c) _)) => c | _ => .skip
noncomputable def U0 : Array Oper := match uB with | .seq a _ => rg a | _ => #[]
noncomputable def U1 : Array Oper := match uB with | .seq _ (.seq a _) => rg a | _ => #[]
noncomputable def U2 : Array Oper := match uB with | .seq _ (.seq _ (.seq (.seq a _) _)) => rg a | _ => #[]
noncomputable def U12 : Array Oper := match uB with | .seq _ (.seq _ (.seq _ (.seq a _))) => rg a | _ => #[]
noncomputable def U3 : Array Oper := match uL with | .seq a _ => rg a | _ => #[]
noncomputable def U11 : Array Oper := match uL with | .seq _ (.seq _ (.seq _ a)) => rg a | _ => #[]
noncomputable def U4 : Array Oper := match uI with | .seq a _ => rg a | _ => #[]
noncomputable def U5 : Array Oper := match uI with | .seq _ (.seq (.seq a _) _) => rg a | _ => #[]
noncomputable def U6 : Array Oper := match uI with | .seq _ (.seq _ (.seq a _)) => rg a | _ => #[]
noncomputable def U7 : Array Oper := match uI with | .seq _ (.seq _ (.seq _ (.seq (.seq a _) _))) => rg a | _ => #[]
noncomputable def U9 : Array Oper := match uI with | .seq _ (.seq _ (.seq _ (.seq _ (.seq a _)))) => rg a | _ => #[]
noncomputable def uQ7 : Code := match uI with | .seq _ (.seq _ (.seq _ (.seq (.seq _ (.cond _ c _)) _))) => c | _ => .skip
noncomputable def uQ9 : Code := match uI with | .seq _ (.seq _ (.seq _ (.seq _ (.seq _ (.cond _ c _))))) => c | _ => .skip
theorem jb1 : uB = .seq (.region 0 U0 false) (.seq (.region 1 U1 false) (.seq (.seq (.region 2 U2 false) (.block 0 (.loop uL))) (.seq (.region 12 U12 false) .ret))) := rfl
theorem qzs : uL = .seq (.region 3 U3 false) (.seq (.cond (.tmp 14) .skip (.exit 0)) (.seq (.block 1 uI) (.region 11 U11 false))) := rfl
theorem jb2 : uI = .seq (.region 4 U4 false) (.seq (.seq (.region 5 U5 false) (.cond (.tmp 27) (.exit 1) .skip)) (.seq (.region 6 U6 false) (.seq (.seq (.region 7 U7 false) (.cond (.tmp 57) uQ7 .skip)) (.seq (.region 9 U9 false) (.cond (.tmp 69) uQ9 .skip))))) := rfl
theorem qy3 : ∀ {x : Nat → Value} {v : Value}, x 4 = v → ∀ w, (results Tryz.f11 (lay 72 x)).runT XG.P w #[] = (.ok v w, #[]) := fun {x v} h w => by
 have := qi6 (fn := Tryz.f11) (r := 4) rfl (lay 72 x) w
 rw [qj4 (by decide), h] at this
 exact this
section
variable {N : Blocks} {kv : List Value} {cs cs1 : List Frame} {w : World} {Z : Frame → World → Prop} {K : List Item} {x : Nat → Value} {sp : Option Addr} {L cp i ob n0 Wb g o0 : Nat} {c : Int} {o : OpV}
theorem u0 (h0 : x 0 = .slice sp L cp) (h1 : x 1 = .int .i64 c)  (nx : ∀ (y : Nat → Value), y 0 = .slice sp L cp → y 1 = .int .i64 c → qf N kv cs (bU.at ⟨lay 72 y, []⟩ K) w cs1 Z) : qf N kv cs (bU.at ⟨lay 72 x, []⟩ (.code (.region 0 U0 false) :: K)) w cs1 Z := by
 refine qf.region ?_
 change qf N kv cs (bU.at ⟨lay 72 x, []⟩ (.inRegion U0 [0] :: K)) w cs1 Z
 refine qf.bv qi jc (.int .i64 0) rfl rfl (qb rfl) (Pure.assign rfl rfl) ?_
 exact qf.regionEnd (nx _ h0 h1)
theorem u1 (h0 : x 0 = .slice sp L cp) (h1 : x 1 = .int .i64 c) (nx : ∀ y : Nat → Value, y 0 = .slice sp L cp → y 1 = .int .i64 c → y 5 = .pointer (some ⟨w.heap.size, 0, none⟩) → qf N (.pointer (some ⟨w.heap.size, 0, none⟩) :: kv) cs (bU.at ⟨lay 72 y, []⟩ K) (w.alloc (.cells #[.slice none 0 0, .slice none 0 0, .slice none 0 0, .bool false] 36)) cs1 Z) : qf N kv cs (bU.at ⟨lay 72 x, []⟩ (.code (.region 1 U1 false) :: K)) w cs1 Z := by
 refine qf.region ?_
 change qf N kv cs (bU.at ⟨lay 72 x, []⟩ (.inRegion U1 [0, 1, 2] :: K)) w cs1 Z
 refine qf.bv qi jc (.agg #[.slice none 0 0, .slice none 0 0, .slice none 0 0, .bool false]) rfl rfl (qb rfl) (Pure.q4x rfl) ?_
 refine qf.bbox (l := [.slice none 0 0, .slice none 0 0, .slice none 0 0, .bool false]) qi jc rfl rfl rfl (qb rfl) (by decide) rfl (fun ρ => .agg (.cons (.jk _ _) (.cons (.jk _ _) (.cons (.jk _ _) (.cons (.bool _) .nil))))) ?_
 refine qf.bv qi jc (.pointer (some ⟨w.heap.size, 0, none⟩)) rfl rfl (qb rfl) (Pure.assign rfl (qp rfl)) ?_
 exact qf.regionEnd (nx _ h0 h1 rfl)
theorem u2 (h0 : x 0 = .slice sp L cp) (h1 : x 1 = .int .i64 c) (h5 : x 5 = .pointer (some ⟨Wb, 0, none⟩))  (nx : ∀ (y : Nat → Value), y 1 = .int .i64 c → y 5 = .pointer (some ⟨Wb, 0, none⟩) → y 11 = .slice sp L cp → y 12 = .int .i64 L → y 13 = .int .i64 (0 : Nat) → qf N kv cs (bU.at ⟨lay 72 y, []⟩ K) w cs1 Z) : qf N kv cs (bU.at ⟨lay 72 x, []⟩ (.code (.region 2 U2 false) :: K)) w cs1 Z := by
 refine qf.region ?_
 change qf N kv cs (bU.at ⟨lay 72 x, []⟩ (.inRegion U2 [0, 1, 2] :: K)) w cs1 Z
 refine qf.bv qi jc (.slice sp L cp) rfl rfl (qb rfl) (Pure.move rfl (qp h0)) ?_
 refine qf.bv qi jc (.int .i64 L) rfl rfl (qb rfl) (Pure.q5o rfl (qp rfl)) ?_
 refine qf.bv qi jc (.int .i64 0) rfl rfl (qb rfl) (Pure.move rfl rfl) ?_
 exact qf.regionEnd (nx _ h1 h5 rfl rfl rfl)
theorem u3 (h1 : x 1 = .int .i64 c) (h5 : x 5 = .pointer (some ⟨Wb, 0, none⟩)) (h11 : x 11 = .slice sp L cp) (h12 : x 12 = .int .i64 L) (h13 : x 13 = .int .i64 i) {t : Bool} (ht : decide ((i : Int) < L) = t) (nx : ∀ (y : Nat → Value), y 1 = .int .i64 c → y 5 = .pointer (some ⟨Wb, 0, none⟩) → y 11 = .slice sp L cp → y 12 = .int .i64 L → y 13 = .int .i64 i → y 14 = .bool t → qf N kv cs (bU.at ⟨lay 72 y, []⟩ K) w cs1 Z) : qf N kv cs (bU.at ⟨lay 72 x, []⟩ (.code (.region 3 U3 false) :: K)) w cs1 Z := by
 refine qf.region ?_
 change qf N kv cs (bU.at ⟨lay 72 x, []⟩ (.inRegion U3 [0] :: K)) w cs1 Z
 refine qf.bv qi jc (.bool t) rfl rfl (qb rfl) (Pure.lss rfl (qp h13) (qp h12) ht) ?_
 exact qf.regionEnd (nx _ h1 h5 h11 h12 h13 rfl)
theorem u4 (h1 : x 1 = .int .i64 c) (h5 : x 5 = .pointer (some ⟨Wb, 0, none⟩)) (h11 : x 11 = .slice (some ⟨g, o0, none⟩) L cp) (h12 : x 12 = .int .i64 L) (h13 : x 13 = .int .i64 i) (hi : i < L) (hN : N g) (hlt : g < w.heap.size) (hc : ∀ (j : Nat) v, o.cells.toList[j]? = some v → w.cell? ⟨g, o0 + i * 10 + j, none⟩ = some v) (nx : ∀ (y : Nat → Value), y 1 = .int .i64 c → y 5 = .pointer (some ⟨Wb, 0, none⟩) → y 11 = .slice (some ⟨g, o0, none⟩) L cp → y 12 = .int .i64 L → y 13 = .int .i64 i → y 6 = .int .i64 i → y 7 = .pointer (some ⟨w.heap.size, 0, none⟩) → qf N (.pointer (some ⟨w.heap.size, 0, none⟩) :: kv) cs (bU.at ⟨lay 72 y, []⟩ K) (w.alloc (.cells o.cells 30)) cs1 Z) : qf N kv cs (bU.at ⟨lay 72 x, []⟩ (.code (.region 4 U4 false) :: K)) w cs1 Z := by
 refine qf.region ?_
 change qf N kv cs (bU.at ⟨lay 72 x, []⟩ (.inRegion U4 [0, 1, 2, 3, 4, 5] :: K)) w cs1 Z
 refine qf.bv qi jc (.int .i64 i) rfl rfl (qb rfl) (Pure.move rfl (qp h13)) ?_
 refine qf.bv qi jc (.pointer (some ⟨g, o0 + i * 10, none⟩)) rfl rfl (qb rfl) (Pure.idx rfl (qp h11) (qp h13) hi) ?_
 refine qf.look (l := o.cells.toList) qi jc rfl rfl (qb rfl) (qp rfl) hN qvx q6v hlt (fun j v hj => by rw [Addr.add_lit]; exact hc j v hj) (fun ρ => qyk o _ ρ) ?_
 change qf N kv cs (bU.at ⟨(lay 72 _).setIfInBounds 17 _, []⟩ _) w cs1 Z
 rw [qbl]
 refine qf.qv0 qi jc rfl rfl rfl (qb rfl) (by kernel_rfl) qzw ?_
 refine qf.bv qi jc (.int .i64 i) rfl rfl (qb rfl) (Pure.assign rfl (qp rfl)) ?_
 refine qf.qv5 (w0 := w) (z := [.int .i64 0, .int .i64 0, .int .i64 0, .int .i64 0, .int .i64 0, .int .i64 0, .int .i64 0, .string ⟨#[]⟩, .string ⟨#[]⟩, .string ⟨#[]⟩]) (l := o.cells.toList) qi jc rfl rfl rfl (qb rfl) (by decide) rfl (by decide) rfl (.head _) (fun ρ => qyk o _ ρ) rfl qzi rfl rfl ?_
 exact qf.regionEnd (nx _ h1 h5 h11 h12 h13 rfl rfl)
theorem u5n (h1 : x 1 = .int .i64 c) (h5 : x 5 = .pointer (some ⟨Wb, 0, none⟩)) (h11 : x 11 = .slice sp L cp) (h12 : x 12 = .int .i64 L) (h13 : x 13 = .int .i64 i) (h6 : x 6 = .int .i64 i) (h7 : x 7 = .pointer (some ⟨ob, 0, none⟩)) (hkv : .pointer (some ⟨ob, 0, none⟩) ∈ kv) (c0 : w.cell? ⟨ob, 0, none⟩ = some (.int .i64 o.k)) (hc : (c != 0) = true) {t : Bool} (ht : decide (kr c < kr o.k) = t) (nx : ∀ (y : Nat → Value) (w' : World) (_ : Same w w'), y 1 = .int .i64 c → y 5 = .pointer (some ⟨Wb, 0, none⟩) → y 11 = .slice sp L cp → y 12 = .int .i64 L → y 13 = .int .i64 i → y 6 = .int .i64 i → y 7 = .pointer (some ⟨ob, 0, none⟩) → y 27 = .bool t → qf N kv cs (bU.at ⟨lay 72 y, []⟩ K) w' cs1 Z) : qf N kv cs (bU.at ⟨lay 72 x, []⟩ (.code (.region 5 U5 false) :: K)) w cs1 Z := by
 refine qf.region ?_
 change qf N kv cs (bU.at ⟨lay 72 x, []⟩ (.inRegion U5 [0, 1, 2, 3, 4, 5, 6, 7, 8, 9] :: K)) w cs1 Z
 refine qf.bv qi jc (.int .i64 c) rfl rfl (qb rfl) (Pure.move rfl (qp h1)) ?_
 refine qf.bv qi jc (.bool true) rfl rfl (qb rfl) (Pure.neq rfl (qp rfl) rfl hc) ?_
 refine qf.bv qi jc (.bool true) rfl rfl (qb rfl) (Pure.move rfl (qp rfl)) ?_
 refine qf.bv qi jc (.pointer (some ⟨ob, 0, none⟩)) rfl rfl (qd rfl rfl rfl (by decide) rfl rfl) (Pure.fOp 0 (by decide) rfl (qp h7)) ?_
 refine qf.qid qi jc rfl rfl rfl (qd rfl rfl rfl (by decide) rfl rfl) (by decide) rfl hkv qkc c0 ?_
 refine qf.qn6 rfl rfl (qd rfl rfl rfl (by decide) rfl rfl) jc (qeh (vs := #[.int .i64 o.k]) rfl rfl (congrArg (fun v => [v]) (qp rfl)) (qkq _)) Tryz.func14 (fun ρ _ => .cons (.int _ _) .nil) (qpl o.k) ?_
 rintro _ wa ⟨rfl, swa⟩
 refine qf.bv qi jc (.int .i64 c) rfl rfl (qd rfl rfl rfl (by decide) rfl rfl) (Pure.move rfl (qp h1)) ?_
 refine qf.qn6 rfl rfl (qd rfl rfl rfl (by decide) rfl rfl) jc (qeh (vs := #[.int .i64 c]) rfl rfl (congrArg (fun v => [v]) (qp rfl)) (qkq _)) Tryz.func14 (fun ρ _ => .cons (.int _ _) .nil) (qpl c) ?_
 rintro _ wb ⟨rfl, swb⟩
 refine qf.bv qi jc (.bool t) rfl rfl (qd rfl rfl rfl (by decide) rfl rfl) (Pure.gtr rfl (qp rfl) (qp rfl) ht) ?_
 refine qf.bv qi jc (.bool t) rfl rfl (qb rfl) (Pure.qhc rfl (qp rfl) (qp rfl)) ?_
 exact qf.regionEnd (nx _ _ (swa.trans swb) h1 h5 h11 h12 h13 h6 h7 rfl)
theorem u5z (h1 : x 1 = .int .i64 c) (h5 : x 5 = .pointer (some ⟨Wb, 0, none⟩)) (h11 : x 11 = .slice sp L cp) (h12 : x 12 = .int .i64 L) (h13 : x 13 = .int .i64 i) (h6 : x 6 = .int .i64 i) (h7 : x 7 = .pointer (some ⟨ob, 0, none⟩)) (hc : (c != 0) = false) (nx : ∀ (y : Nat → Value), y 1 = .int .i64 c → y 5 = .pointer (some ⟨Wb, 0, none⟩) → y 11 = .slice sp L cp → y 12 = .int .i64 L → y 13 = .int .i64 i → y 6 = .int .i64 i → y 7 = .pointer (some ⟨ob, 0, none⟩) → y 27 = .bool false → qf N kv cs (bU.at ⟨lay 72 y, []⟩ K) w cs1 Z) : qf N kv cs (bU.at ⟨lay 72 x, []⟩ (.code (.region 5 U5 false) :: K)) w cs1 Z := by
 refine qf.region ?_
 change qf N kv cs (bU.at ⟨lay 72 x, []⟩ (.inRegion U5 [0, 1, 2, 3, 4, 5, 6, 7, 8, 9] :: K)) w cs1 Z
 refine qf.bv qi jc (.int .i64 c) rfl rfl (qb rfl) (Pure.move rfl (qp h1)) ?_
 refine qf.bv qi jc (.bool false) rfl rfl (qb rfl) (Pure.neq rfl (qp rfl) rfl hc) ?_
 refine qf.bv qi jc (.bool false) rfl rfl (qb rfl) (Pure.move rfl (qp rfl)) ?_
 refine qf.bu qi rfl rfl (qd rfl rfl rfl (by decide) rfl rfl) ?_
 refine qf.bu qi rfl rfl (qd rfl rfl rfl (by decide) rfl rfl) ?_
 refine qf.bu qi rfl rfl (qd rfl rfl rfl (by decide) rfl rfl) ?_
 refine qf.bu qi rfl rfl (qd rfl rfl rfl (by decide) rfl rfl) ?_
 refine qf.bu qi rfl rfl (qd rfl rfl rfl (by decide) rfl rfl) ?_
 refine qf.bu qi rfl rfl (qd rfl rfl rfl (by decide) rfl rfl) ?_
 refine qf.bv qi jc (.bool false) rfl rfl (qb rfl) (Pure.qev rfl (qp rfl) rfl) ?_
 exact qf.regionEnd (nx _ h1 h5 h11 h12 h13 h6 h7 rfl)
theorem u6a (h1 : x 1 = .int .i64 c) (h5 : x 5 = .pointer (some ⟨Wb, 0, none⟩)) (h11 : x 11 = .slice sp L cp) (h12 : x 12 = .int .i64 L) (h13 : x 13 = .int .i64 i) (h6 : x 6 = .int .i64 i) (h7 : x 7 = .pointer (some ⟨ob, 0, none⟩)) (hkv : .pointer (some ⟨ob, 0, none⟩) ∈ kv) (c0 : w.cell? ⟨ob, 0, none⟩ = some (.int .i64 o.k)) (hc : (c == 0) = false) (hu : (o.k == c) = true) (nx : ∀ (y : Nat → Value), y 1 = .int .i64 c → y 5 = .pointer (some ⟨Wb, 0, none⟩) → y 11 = .slice sp L cp → y 12 = .int .i64 L → y 13 = .int .i64 i → y 6 = .int .i64 i → y 7 = .pointer (some ⟨ob, 0, none⟩) → qf N kv cs (bU.at ⟨lay 72 y, []⟩ K) w cs1 Z) : qf N kv cs (bU.at ⟨lay 72 x, []⟩ (.code (.region 6 U6 false) :: K)) w cs1 Z := by
 refine qf.region ?_
 change qf N kv cs (bU.at ⟨lay 72 x, []⟩ (.inRegion U6 [0, 1, 2, 3, 4, 5, 6, 7, 8, 9, 10, 11, 12, 13, 14, 15, 16, 17] :: K)) w cs1 Z
 refine qf.bv qi jc (.int .i64 c) rfl rfl (qb rfl) (Pure.move rfl (qp h1)) ?_
 refine qf.bv qi jc (.bool false) rfl rfl (qb rfl) (Pure.eql rfl (qp rfl) rfl hc) ?_
 refine qf.bv qi jc (.bool false) rfl rfl (qb rfl) (Pure.move rfl (qp rfl)) ?_
 refine qf.bv qi jc (.pointer (some ⟨ob, 0, none⟩)) rfl rfl (qd rfl rfl rfl (by decide) rfl rfl) (Pure.fOp 0 (by decide) rfl (qp h7)) ?_
 refine qf.qid qi jc rfl rfl rfl (qd rfl rfl rfl (by decide) rfl rfl) (by decide) rfl hkv qkc c0 ?_
 refine qf.bv qi jc (.int .i64 c) rfl rfl (qd rfl rfl rfl (by decide) rfl rfl) (Pure.move rfl (qp h1)) ?_
 refine qf.bv qi jc (.bool true) rfl rfl (qd rfl rfl rfl (by decide) rfl rfl) (Pure.eql rfl (qp rfl) (qp rfl) hu) ?_
 refine qf.bv qi jc (.bool true) rfl rfl (qb rfl) (Pure.qev rfl (qp rfl) (qp rfl)) ?_
 refine qf.bv qi jc (.bool true) rfl rfl (qb rfl) (Pure.move rfl (qp rfl)) ?_
 refine qf.bu qi rfl rfl (qd rfl rfl rfl (by decide) rfl rfl) ?_
 refine qf.bu qi rfl rfl (qd rfl rfl rfl (by decide) rfl rfl) ?_
 refine qf.bu qi rfl rfl (qd rfl rfl rfl (by decide) rfl rfl) ?_
 refine qf.bu qi rfl rfl (qac rfl rfl rfl (by decide) rfl) ?_
 refine qf.bu qi rfl rfl (qac rfl rfl rfl (by decide) rfl) ?_
 refine qf.bu qi rfl rfl (qac rfl rfl rfl (by decide) rfl) ?_
 refine qf.bu qi rfl rfl (qd rfl rfl rfl (by decide) rfl rfl) ?_
 refine qf.bv qi jc (.bool true) rfl rfl (qb rfl) (Pure.qhc rfl (qp rfl) rfl) ?_
 refine qf.bv qi jc (.bool true) rfl rfl (qb rfl) (Pure.assign rfl (qp rfl)) ?_
 exact qf.regionEnd (nx _ h1 h5 h11 h12 h13 h6 h7)
theorem u6b (h1 : x 1 = .int .i64 c) (h5 : x 5 = .pointer (some ⟨Wb, 0, none⟩)) (h11 : x 11 = .slice sp L cp) (h12 : x 12 = .int .i64 L) (h13 : x 13 = .int .i64 i) (h6 : x 6 = .int .i64 i) (h7 : x 7 = .pointer (some ⟨ob, 0, none⟩)) (hkv : .pointer (some ⟨ob, 0, none⟩) ∈ kv) (c0 : w.cell? ⟨ob, 0, none⟩ = some (.int .i64 o.k)) (hc : (c == 0) = false) (hu : (o.k == c) = false) (hs : (c == -1) = false) (nx : ∀ (y : Nat → Value), y 1 = .int .i64 c → y 5 = .pointer (some ⟨Wb, 0, none⟩) → y 11 = .slice sp L cp → y 12 = .int .i64 L → y 13 = .int .i64 i → y 6 = .int .i64 i → y 7 = .pointer (some ⟨ob, 0, none⟩) → qf N kv cs (bU.at ⟨lay 72 y, []⟩ K) w cs1 Z) : qf N kv cs (bU.at ⟨lay 72 x, []⟩ (.code (.region 6 U6 false) :: K)) w cs1 Z := by
 refine qf.region ?_
 change qf N kv cs (bU.at ⟨lay 72 x, []⟩ (.inRegion U6 [0, 1, 2, 3, 4, 5, 6, 7, 8, 9, 10, 11, 12, 13, 14, 15, 16, 17] :: K)) w cs1 Z
 refine qf.bv qi jc (.int .i64 c) rfl rfl (qb rfl) (Pure.move rfl (qp h1)) ?_
 refine qf.bv qi jc (.bool false) rfl rfl (qb rfl) (Pure.eql rfl (qp rfl) rfl hc) ?_
 refine qf.bv qi jc (.bool false) rfl rfl (qb rfl) (Pure.move rfl (qp rfl)) ?_
 refine qf.bv qi jc (.pointer (some ⟨ob, 0, none⟩)) rfl rfl (qd rfl rfl rfl (by decide) rfl rfl) (Pure.fOp 0 (by decide) rfl (qp h7)) ?_
 refine qf.qid qi jc rfl rfl rfl (qd rfl rfl rfl (by decide) rfl rfl) (by decide) rfl hkv qkc c0 ?_
 refine qf.bv qi jc (.int .i64 c) rfl rfl (qd rfl rfl rfl (by decide) rfl rfl) (Pure.move rfl (qp h1)) ?_
 refine qf.bv qi jc (.bool false) rfl rfl (qd rfl rfl rfl (by decide) rfl rfl) (Pure.eql rfl (qp rfl) (qp rfl) hu) ?_
 refine qf.bv qi jc (.bool false) rfl rfl (qb rfl) (Pure.qev rfl (qp rfl) (qp rfl)) ?_
 refine qf.bv qi jc (.bool false) rfl rfl (qb rfl) (Pure.move rfl (qp rfl)) ?_
 refine qf.bv qi jc (.int .i64 c) rfl rfl (qd rfl rfl rfl (by decide) rfl rfl) (Pure.move rfl (qp h1)) ?_
 refine qf.bv qi jc (.bool false) rfl rfl (qd rfl rfl rfl (by decide) rfl rfl) (Pure.eql rfl (qp rfl) rfl hs) ?_
 refine qf.bv qi jc (.bool false) rfl rfl (qd rfl rfl rfl (by decide) rfl rfl) (Pure.move rfl (qp rfl)) ?_
 refine qf.bu qi rfl rfl (qd rfl rfl rfl (by decide) rfl rfl) ?_
 refine qf.bu qi rfl rfl (qd rfl rfl rfl (by decide) rfl rfl) ?_
 refine qf.bu qi rfl rfl (qd rfl rfl rfl (by decide) rfl rfl) ?_
 refine qf.bv qi jc (.bool false) rfl rfl (qd rfl rfl rfl (by decide) rfl rfl) (Pure.qev rfl (qp rfl) rfl) ?_
 refine qf.bv qi jc (.bool false) rfl rfl (qb rfl) (Pure.qev rfl (qp rfl) (qp rfl)) ?_
 refine qf.bv qi jc (.bool false) rfl rfl (qb rfl) (Pure.assign rfl (qp rfl)) ?_
 exact qf.regionEnd (nx _ h1 h5 h11 h12 h13 h6 h7)
theorem u6c (h1 : x 1 = .int .i64 c) (h5 : x 5 = .pointer (some ⟨Wb, 0, none⟩)) (h11 : x 11 = .slice sp L cp) (h12 : x 12 = .int .i64 L) (h13 : x 13 = .int .i64 i) (h6 : x 6 = .int .i64 i) (h7 : x 7 = .pointer (some ⟨ob, 0, none⟩)) (hkv : .pointer (some ⟨ob, 0, none⟩) ∈ kv) (c0 : w.cell? ⟨ob, 0, none⟩ = some (.int .i64 o.k)) (hc : (c == 0) = false) (hu : (o.k == c) = false) (hs : (c == -1) = true) {r : Bool} (hr : (o.k == 5) = r) (nx : ∀ (y : Nat → Value), y 1 = .int .i64 c → y 5 = .pointer (some ⟨Wb, 0, none⟩) → y 11 = .slice sp L cp → y 12 = .int .i64 L → y 13 = .int .i64 i → y 6 = .int .i64 i → y 7 = .pointer (some ⟨ob, 0, none⟩) → qf N kv cs (bU.at ⟨lay 72 y, []⟩ K) w cs1 Z) : qf N kv cs (bU.at ⟨lay 72 x, []⟩ (.code (.region 6 U6 false) :: K)) w cs1 Z := by
 refine qf.region ?_
 change qf N kv cs (bU.at ⟨lay 72 x, []⟩ (.inRegion U6 [0, 1, 2, 3, 4, 5, 6, 7, 8, 9, 10, 11, 12, 13, 14, 15, 16, 17] :: K)) w cs1 Z
 refine qf.bv qi jc (.int .i64 c) rfl rfl (qb rfl) (Pure.move rfl (qp h1)) ?_
 refine qf.bv qi jc (.bool false) rfl rfl (qb rfl) (Pure.eql rfl (qp rfl) rfl hc) ?_
 refine qf.bv qi jc (.bool false) rfl rfl (qb rfl) (Pure.move rfl (qp rfl)) ?_
 refine qf.bv qi jc (.pointer (some ⟨ob, 0, none⟩)) rfl rfl (qd rfl rfl rfl (by decide) rfl rfl) (Pure.fOp 0 (by decide) rfl (qp h7)) ?_
 refine qf.qid qi jc rfl rfl rfl (qd rfl rfl rfl (by decide) rfl rfl) (by decide) rfl hkv qkc c0 ?_
 refine qf.bv qi jc (.int .i64 c) rfl rfl (qd rfl rfl rfl (by decide) rfl rfl) (Pure.move rfl (qp h1)) ?_
 refine qf.bv qi jc (.bool false) rfl rfl (qd rfl rfl rfl (by decide) rfl rfl) (Pure.eql rfl (qp rfl) (qp rfl) hu) ?_
 refine qf.bv qi jc (.bool false) rfl rfl (qb rfl) (Pure.qev rfl (qp rfl) (qp rfl)) ?_
 refine qf.bv qi jc (.bool false) rfl rfl (qb rfl) (Pure.move rfl (qp rfl)) ?_
 refine qf.bv qi jc (.int .i64 c) rfl rfl (qd rfl rfl rfl (by decide) rfl rfl) (Pure.move rfl (qp h1)) ?_
 refine qf.bv qi jc (.bool true) rfl rfl (qd rfl rfl rfl (by decide) rfl rfl) (Pure.eql rfl (qp rfl) rfl hs) ?_
 refine qf.bv qi jc (.bool true) rfl rfl (qd rfl rfl rfl (by decide) rfl rfl) (Pure.move rfl (qp rfl)) ?_
 refine qf.bv qi jc (.pointer (some ⟨ob, 0, none⟩)) rfl rfl (qd rfl rfl rfl (by decide) rfl rfl) (Pure.fOp 0 (by decide) rfl (qp h7)) ?_
 refine qf.qid qi jc rfl rfl rfl (qd rfl rfl rfl (by decide) rfl rfl) (by decide) rfl hkv qkc c0 ?_
 refine qf.bv qi jc (.bool r) rfl rfl (qd rfl rfl rfl (by decide) rfl rfl) (Pure.eql rfl (qp rfl) rfl hr) ?_
 refine qf.bv qi jc (.bool r) rfl rfl (qd rfl rfl rfl (by decide) rfl rfl) (Pure.qhc rfl (qp rfl) (qp rfl)) ?_
 refine qf.bv qi jc (.bool r) rfl rfl (qb rfl) (Pure.qev rfl (qp rfl) (qp rfl)) ?_
 refine qf.bv qi jc (.bool r) rfl rfl (qb rfl) (Pure.assign rfl (qp rfl)) ?_
 exact qf.regionEnd (nx _ h1 h5 h11 h12 h13 h6 h7)
theorem u6d (h1 : x 1 = .int .i64 c) (h5 : x 5 = .pointer (some ⟨Wb, 0, none⟩)) (h11 : x 11 = .slice sp L cp) (h12 : x 12 = .int .i64 L) (h13 : x 13 = .int .i64 i) (h6 : x 6 = .int .i64 i) (h7 : x 7 = .pointer (some ⟨ob, 0, none⟩)) (hc : (c == 0) = true) (nx : ∀ (y : Nat → Value), y 1 = .int .i64 c → y 5 = .pointer (some ⟨Wb, 0, none⟩) → y 11 = .slice sp L cp → y 12 = .int .i64 L → y 13 = .int .i64 i → y 6 = .int .i64 i → y 7 = .pointer (some ⟨ob, 0, none⟩) → qf N kv cs (bU.at ⟨lay 72 y, []⟩ K) w cs1 Z) : qf N kv cs (bU.at ⟨lay 72 x, []⟩ (.code (.region 6 U6 false) :: K)) w cs1 Z := by
 refine qf.region ?_
 change qf N kv cs (bU.at ⟨lay 72 x, []⟩ (.inRegion U6 [0, 1, 2, 3, 4, 5, 6, 7, 8, 9, 10, 11, 12, 13, 14, 15, 16, 17] :: K)) w cs1 Z
 refine qf.bv qi jc (.int .i64 c) rfl rfl (qb rfl) (Pure.move rfl (qp h1)) ?_
 refine qf.bv qi jc (.bool true) rfl rfl (qb rfl) (Pure.eql rfl (qp rfl) rfl hc) ?_
 refine qf.bv qi jc (.bool true) rfl rfl (qb rfl) (Pure.move rfl (qp rfl)) ?_
 refine qf.bu qi rfl rfl (qd rfl rfl rfl (by decide) rfl rfl) ?_
 refine qf.bu qi rfl rfl (qd rfl rfl rfl (by decide) rfl rfl) ?_
 refine qf.bu qi rfl rfl (qd rfl rfl rfl (by decide) rfl rfl) ?_
 refine qf.bu qi rfl rfl (qd rfl rfl rfl (by decide) rfl rfl) ?_
 refine qf.bv qi jc (.bool true) rfl rfl (qb rfl) (Pure.qhc rfl (qp rfl) rfl) ?_
 refine qf.bv qi jc (.bool true) rfl rfl (qb rfl) (Pure.move rfl (qp rfl)) ?_
 refine qf.bu qi rfl rfl (qd rfl rfl rfl (by decide) rfl rfl) ?_
 refine qf.bu qi rfl rfl (qd rfl rfl rfl (by decide) rfl rfl) ?_
 refine qf.bu qi rfl rfl (qd rfl rfl rfl (by decide) rfl rfl) ?_
 refine qf.bu qi rfl rfl (qac rfl rfl rfl (by decide) rfl) ?_
 refine qf.bu qi rfl rfl (qac rfl rfl rfl (by decide) rfl) ?_
 refine qf.bu qi rfl rfl (qac rfl rfl rfl (by decide) rfl) ?_
 refine qf.bu qi rfl rfl (qd rfl rfl rfl (by decide) rfl rfl) ?_
 refine qf.bv qi jc (.bool true) rfl rfl (qb rfl) (Pure.qhc rfl (qp rfl) rfl) ?_
 refine qf.bv qi jc (.bool true) rfl rfl (qb rfl) (Pure.assign rfl (qp rfl)) ?_
 exact qf.regionEnd (nx _ h1 h5 h11 h12 h13 h6 h7)
theorem u7 (h1 : x 1 = .int .i64 c) (h5 : x 5 = .pointer (some ⟨Wb, 0, none⟩)) (h11 : x 11 = .slice sp L cp) (h12 : x 12 = .int .i64 L) (h13 : x 13 = .int .i64 i) (h6 : x 6 = .int .i64 i) (h7 : x 7 = .pointer (some ⟨ob, 0, none⟩)) {R : World → Prop} (hkv : .pointer (some ⟨ob, 0, none⟩) ∈ kv) (hkw : .pointer (some ⟨Wb, 0, none⟩) ∈ kv) (hc : ∀ (j : Nat) v, o.cells.toList[j]? = some v → w.cell? ⟨ob, j, none⟩ = some v) (hR : ∀ w w', Same w w' → R w → R w')
  (hstep : qk2 N kv fT #[.pointer (some ⟨Wb, 0, none⟩), .agg o.cells] w fun v w' => v = .bool true ∧ R w') (nx : ∀ (y : Nat → Value) (w' : World) (_ : R w'), y 1 = .int .i64 c → y 5 = .pointer (some ⟨Wb, 0, none⟩) → y 11 = .slice sp L cp → y 12 = .int .i64 L → y 13 = .int .i64 i → y 6 = .int .i64 i → y 7 = .pointer (some ⟨ob, 0, none⟩) → y 57 = .bool false → qf N kv cs (bU.at ⟨lay 72 y, []⟩ K) w' cs1 Z) : qf N kv cs (bU.at ⟨lay 72 x, []⟩ (.code (.region 7 U7 false) :: K)) w cs1 Z := by
 refine qf.region ?_
 change qf N kv cs (bU.at ⟨lay 72 x, []⟩ (.inRegion U7 [0, 1, 2, 3, 4, 5, 6, 7, 8, 9, 10, 11, 12] :: K)) w cs1 Z
 refine qf.bv qi jc (.pointer (some ⟨Wb, 0, none⟩)) rfl rfl (qb rfl) (Pure.move rfl (qp h5)) ?_
 refine qf.q4w (l := o.cells.toList) qi jc rfl rfl rfl (qb rfl) (by decide) h7 hkv qvx q6v hc ?_
 refine qf.qn6 rfl rfl (qb rfl) jc (qeh (vs := #[.pointer (some ⟨Wb, 0, none⟩), .agg o.cells]) rfl rfl (congr (congrArg (fun u v => [u, v]) (qp rfl)) (qp rfl)) (quy _)) Tryz.func15 (fun ρ hK => .cons (hK _ hkw) (.cons (qyk o _ ρ) .nil)) (qk2.calls rfl (fun v w1 wc s h => ⟨h.1, hR _ _ s h.2⟩) hstep) ?_
 rintro _ wa ⟨rfl, hRa⟩
 refine qf.bv qi jc (.bool false) rfl rfl (qb rfl) (Pure.not rfl (qp rfl) rfl) ?_
 refine qf.bv qi jc (.bool false) rfl rfl (qb rfl) (Pure.move rfl (qp rfl)) ?_
 refine qf.bu qi rfl rfl (qd rfl rfl rfl (by decide) rfl rfl) ?_
 refine qf.bu qi rfl rfl (qd rfl rfl rfl (by decide) rfl rfl) ?_
 refine qf.bu qi rfl rfl (qd rfl rfl rfl (by decide) rfl rfl) ?_
 refine qf.bu qi rfl rfl (qd rfl rfl rfl (by decide) rfl rfl) ?_
 refine qf.bu qi rfl rfl (qd rfl rfl rfl (by decide) rfl rfl) ?_
 refine qf.bu qi rfl rfl (qac rfl rfl rfl (by decide) rfl) ?_
 refine qf.bu qi rfl rfl (qd rfl rfl rfl (by decide) rfl rfl) ?_
 refine qf.bv qi jc (.bool false) rfl rfl (qb rfl) (Pure.qev rfl (qp rfl) rfl) ?_
 exact qf.regionEnd (nx _ _ hRa h1 h5 h11 h12 h13 h6 h7 rfl)
theorem u9a (h1 : x 1 = .int .i64 c) (h5 : x 5 = .pointer (some ⟨Wb, 0, none⟩)) (h11 : x 11 = .slice sp L cp) (h12 : x 12 = .int .i64 L) (h13 : x 13 = .int .i64 i) (h6 : x 6 = .int .i64 i) (h7 : x 7 = .pointer (some ⟨ob, 0, none⟩)) (hc : (c == 0) = false) (hs : (c == -1) = false) (nx : ∀ (y : Nat → Value), y 1 = .int .i64 c → y 5 = .pointer (some ⟨Wb, 0, none⟩) → y 11 = .slice sp L cp → y 12 = .int .i64 L → y 13 = .int .i64 i → y 69 = .bool false → qf N kv cs (bU.at ⟨lay 72 y, []⟩ K) w cs1 Z) : qf N kv cs (bU.at ⟨lay 72 x, []⟩ (.code (.region 9 U9 false) :: K)) w cs1 Z := by
 refine qf.region ?_
 change qf N kv cs (bU.at ⟨lay 72 x, []⟩ (.inRegion U9 [0, 1, 2, 3, 4, 5, 6, 7, 8, 9, 10] :: K)) w cs1 Z
 refine qf.bv qi jc (.int .i64 c) rfl rfl (qb rfl) (Pure.move rfl (qp h1)) ?_
 refine qf.bv qi jc (.bool false) rfl rfl (qb rfl) (Pure.eql rfl (qp rfl) rfl hc) ?_
 refine qf.bv qi jc (.bool false) rfl rfl (qb rfl) (Pure.move rfl (qp rfl)) ?_
 refine qf.bv qi jc (.int .i64 c) rfl rfl (qd rfl rfl rfl (by decide) rfl rfl) (Pure.move rfl (qp h1)) ?_
 refine qf.bv qi jc (.bool false) rfl rfl (qd rfl rfl rfl (by decide) rfl rfl) (Pure.eql rfl (qp rfl) rfl hs) ?_
 refine qf.bv qi jc (.bool false) rfl rfl (qb rfl) (Pure.qev rfl (qp rfl) (qp rfl)) ?_
 refine qf.bv qi jc (.bool false) rfl rfl (qb rfl) (Pure.move rfl (qp rfl)) ?_
 refine qf.bu qi rfl rfl (qd rfl rfl rfl (by decide) rfl rfl) ?_
 refine qf.bu qi rfl rfl (qd rfl rfl rfl (by decide) rfl rfl) ?_
 refine qf.bu qi rfl rfl (qd rfl rfl rfl (by decide) rfl rfl) ?_
 refine qf.bv qi jc (.bool false) rfl rfl (qb rfl) (Pure.qev rfl (qp rfl) rfl) ?_
 exact qf.regionEnd (nx _ h1 h5 h11 h12 h13 rfl)
theorem u9b (h1 : x 1 = .int .i64 c) (h5 : x 5 = .pointer (some ⟨Wb, 0, none⟩)) (h11 : x 11 = .slice sp L cp) (h12 : x 12 = .int .i64 L) (h13 : x 13 = .int .i64 i) (h6 : x 6 = .int .i64 i) (h7 : x 7 = .pointer (some ⟨ob, 0, none⟩)) (hc : (c == 0) = false) (hs : (c == -1) = true) {R : World → Prop} (hkw : .pointer (some ⟨Wb, 0, none⟩) ∈ kv) (hl : yu N kv fLk #[.pointer (some ⟨Wb, 0, none⟩)] w fun v w' => v = .bool true ∧ R w') (nx : ∀ (y : Nat → Value) (w' : World) (_ : R w'), y 1 = .int .i64 c → y 5 = .pointer (some ⟨Wb, 0, none⟩) → y 11 = .slice sp L cp → y 12 = .int .i64 L → y 13 = .int .i64 i → y 69 = .bool false → qf N kv cs (bU.at ⟨lay 72 y, []⟩ K) w' cs1 Z) : qf N kv cs (bU.at ⟨lay 72 x, []⟩ (.code (.region 9 U9 false) :: K)) w cs1 Z := by
 refine qf.region ?_
 change qf N kv cs (bU.at ⟨lay 72 x, []⟩ (.inRegion U9 [0, 1, 2, 3, 4, 5, 6, 7, 8, 9, 10] :: K)) w cs1 Z
 refine qf.bv qi jc (.int .i64 c) rfl rfl (qb rfl) (Pure.move rfl (qp h1)) ?_
 refine qf.bv qi jc (.bool false) rfl rfl (qb rfl) (Pure.eql rfl (qp rfl) rfl hc) ?_
 refine qf.bv qi jc (.bool false) rfl rfl (qb rfl) (Pure.move rfl (qp rfl)) ?_
 refine qf.bv qi jc (.int .i64 c) rfl rfl (qd rfl rfl rfl (by decide) rfl rfl) (Pure.move rfl (qp h1)) ?_
 refine qf.bv qi jc (.bool true) rfl rfl (qd rfl rfl rfl (by decide) rfl rfl) (Pure.eql rfl (qp rfl) rfl hs) ?_
 refine qf.bv qi jc (.bool true) rfl rfl (qb rfl) (Pure.qev rfl (qp rfl) (qp rfl)) ?_
 refine qf.bv qi jc (.bool true) rfl rfl (qb rfl) (Pure.move rfl (qp rfl)) ?_
 refine qf.bv qi jc (.pointer (some ⟨Wb, 0, none⟩)) rfl rfl (qd rfl rfl rfl (by decide) rfl rfl) (Pure.move rfl (qp h5)) ?_
 refine qf.qn6 rfl rfl (qd rfl rfl rfl (by decide) rfl rfl) jc (qeh (vs := #[.pointer (some ⟨Wb, 0, none⟩)]) rfl rfl (congrArg (fun v => [v]) (qp rfl)) (qj9 _)) Tryz.func16 (fun ρ hK => .cons (hK _ hkw) .nil) hl ?_
 rintro _ wa ⟨rfl, hRa⟩
 refine qf.bv qi jc (.bool false) rfl rfl (qd rfl rfl rfl (by decide) rfl rfl) (Pure.not rfl (qp rfl) rfl) ?_
 refine qf.bv qi jc (.bool false) rfl rfl (qb rfl) (Pure.qhc rfl (qp rfl) (qp rfl)) ?_
 exact qf.regionEnd (nx _ _ hRa h1 h5 h11 h12 h13 rfl)
theorem u9c (h1 : x 1 = .int .i64 c) (h5 : x 5 = .pointer (some ⟨Wb, 0, none⟩)) (h11 : x 11 = .slice sp L cp) (h12 : x 12 = .int .i64 L) (h13 : x 13 = .int .i64 i) (h6 : x 6 = .int .i64 i) (h7 : x 7 = .pointer (some ⟨ob, 0, none⟩)) (hc : (c == 0) = true) {R : World → Prop} (hkw : .pointer (some ⟨Wb, 0, none⟩) ∈ kv) (hl : yu N kv fLk #[.pointer (some ⟨Wb, 0, none⟩)] w fun v w' => v = .bool true ∧ R w') (nx : ∀ (y : Nat → Value) (w' : World) (_ : R w'), y 1 = .int .i64 c → y 5 = .pointer (some ⟨Wb, 0, none⟩) → y 11 = .slice sp L cp → y 12 = .int .i64 L → y 13 = .int .i64 i → y 69 = .bool false → qf N kv cs (bU.at ⟨lay 72 y, []⟩ K) w' cs1 Z) : qf N kv cs (bU.at ⟨lay 72 x, []⟩ (.code (.region 9 U9 false) :: K)) w cs1 Z := by
 refine qf.region ?_
 change qf N kv cs (bU.at ⟨lay 72 x, []⟩ (.inRegion U9 [0, 1, 2, 3, 4, 5, 6, 7, 8, 9, 10] :: K)) w cs1 Z
 refine qf.bv qi jc (.int .i64 c) rfl rfl (qb rfl) (Pure.move rfl (qp h1)) ?_
 refine qf.bv qi jc (.bool true) rfl rfl (qb rfl) (Pure.eql rfl (qp rfl) rfl hc) ?_
 refine qf.bv qi jc (.bool true) rfl rfl (qb rfl) (Pure.move rfl (qp rfl)) ?_
 refine qf.bu qi rfl rfl (qd rfl rfl rfl (by decide) rfl rfl) ?_
 refine qf.bu qi rfl rfl (qd rfl rfl rfl (by decide) rfl rfl) ?_
 refine qf.bv qi jc (.bool true) rfl rfl (qb rfl) (Pure.qhc rfl (qp rfl) rfl) ?_
 refine qf.bv qi jc (.bool true) rfl rfl (qb rfl) (Pure.move rfl (qp rfl)) ?_
 refine qf.bv qi jc (.pointer (some ⟨Wb, 0, none⟩)) rfl rfl (qd rfl rfl rfl (by decide) rfl rfl) (Pure.move rfl (qp h5)) ?_
 refine qf.qn6 rfl rfl (qd rfl rfl rfl (by decide) rfl rfl) jc (qeh (vs := #[.pointer (some ⟨Wb, 0, none⟩)]) rfl rfl (congrArg (fun v => [v]) (qp rfl)) (qj9 _)) Tryz.func16 (fun ρ hK => .cons (hK _ hkw) .nil) hl ?_
 rintro _ wa ⟨rfl, hRa⟩
 refine qf.bv qi jc (.bool false) rfl rfl (qd rfl rfl rfl (by decide) rfl rfl) (Pure.not rfl (qp rfl) rfl) ?_
 refine qf.bv qi jc (.bool false) rfl rfl (qb rfl) (Pure.qhc rfl (qp rfl) (qp rfl)) ?_
 exact qf.regionEnd (nx _ _ hRa h1 h5 h11 h12 h13 rfl)
theorem u11 (h1 : x 1 = .int .i64 c) (h5 : x 5 = .pointer (some ⟨Wb, 0, none⟩)) (h11 : x 11 = .slice sp L cp) (h12 : x 12 = .int .i64 L) (h13 : x 13 = .int .i64 i) (hi : i ≤ 4611686018427387904) (nx : ∀ (y : Nat → Value), y 1 = .int .i64 c → y 5 = .pointer (some ⟨Wb, 0, none⟩) → y 11 = .slice sp L cp → y 12 = .int .i64 L → y 13 = .int .i64 (i + 1 : Int) → qf N kv cs (bU.at ⟨lay 72 y, []⟩ K) w cs1 Z) : qf N kv cs (bU.at ⟨lay 72 x, []⟩ (.code (.region 11 U11 false) :: K)) w cs1 Z := by
 refine qf.region ?_
 change qf N kv cs (bU.at ⟨lay 72 x, []⟩ (.inRegion U11 [0, 1] :: K)) w cs1 Z
 refine qf.bv qi jc (.int .i64 (i + 1 : Int)) rfl rfl (qb rfl) (Pure.add rfl (qp h13) rfl (by omega) (by omega)) ?_
 refine qf.bv qi jc (.int .i64 (i + 1 : Int)) rfl rfl (qb rfl) (Pure.move rfl (qp rfl)) ?_
 exact qf.regionEnd (nx _ h1 h5 h11 h12 rfl)
theorem u12   (nx : ∀ (y : Nat → Value), y 4 = .int .i64 (-1) → qf N kv cs (bU.at ⟨lay 72 y, []⟩ K) w cs1 Z) : qf N kv cs (bU.at ⟨lay 72 x, []⟩ (.code (.region 12 U12 false) :: K)) w cs1 Z := by
 refine qf.region ?_
 change qf N kv cs (bU.at ⟨lay 72 x, []⟩ (.inRegion U12 [0] :: K)) w cs1 Z
 refine qf.bv qi jc (.int .i64 (-1)) rfl rfl (qb rfl) (Pure.assign rfl rfl) ?_
 exact qf.regionEnd (nx _ rfl)
end
structure qia (n0 L : Nat) (os : Nat → OpV) (c : Int) (Wb : Nat) (w0 : World) (I : Nat → World → Prop) : Prop where
 idle : ∀ k w w', I k w → But (fun _ => False) w w' → I k w'
 keep : ∀ k w, I k w → But (fun b => n0 ≤ b) w0 w
 skip : ∀ k w, I k w → I (k + 1) w
 step : ∀ (k : Nat) (w : World) (N : Blocks) (kv : List Value), k < L → (c = 0 ∨ kr (os k).k ≤ kr c) → I k w → (∀ b, N b → b < n0) → qk2 N kv fT #[.pointer (some ⟨Wb, 0, none⟩), .agg (os k).cells] w fun v w' => v = .bool true ∧ I (k + 1) w'
 looks : (c = 0 ∨ c = -1) → ∀ k w, I k w → Calls Tryz.prog fLk #[.pointer (some ⟨Wb, 0, none⟩)] w fun e w' => e = .returned (.bool true) ∧ But (fun _ => False) w w'
section
variable {N : Blocks} {cs : List Frame} {K : List Item} {sp : Option Addr} {L cp n0 nS Wb : Nat} {c : Int} {os : Nat → OpV} {w0 : World} {I : Nat → World → Prop}
theorem qia.same (h : qia n0 L os c Wb w0 I) {k : Nat} {w w' : World} (s : Same w w') (i : I k w) : I k w' := h.idle k w w' i (But.same' s)
theorem qia.look (h : qia n0 L os c Wb w0 I) (hc : c = 0 ∨ c = -1) {kv : List Value} {k : Nat} {w : World} (i : I k w) : yu N kv fLk #[.pointer (some ⟨Wb, 0, none⟩)] w fun v w' => v = .bool true ∧ I k w' :=
 yu.of1 (r := 2) rfl rfl Tryz.func16 rfl (fun v w1 wc s h' => ⟨h'.1, h.same s h'.2⟩) fun wc s => (h.looks hc k wc (h.same s i)).mono fun e w' ⟨h1, h2⟩ => by subst h1; exact ⟨rfl, h.idle _ _ _ (h.same s i) h2⟩
theorem q7c (hp : qia n0 L os c Wb w0 I) (hN1 : ∀ g, g < nS → N g) (hN2 : ∀ g, N g → g < n0) (hS : yj nS w0 sp L os) (hn : nS ≤ n0) {R : Value → World → Prop} (hR : ∀ w', I L w' → R (.int .i64 (-1)) w') :
  ∀ (d i : Nat) (x : Nat → Value) (kv : List Value) (w : World), d = L - i → i ≤ L → I i w → .pointer (some ⟨Wb, 0, none⟩) ∈ kv → x 1 = .int .i64 c → x 5 = .pointer (some ⟨Wb, 0, none⟩) → x 11 = .slice sp L cp → x 12 = .int .i64 L → x 13 = .int .i64 i →
   qf N kv cs (bU.at ⟨lay 72 x, []⟩ (.code uL :: .inLoop uL :: .inBlock 0 :: .code (.seq (.region 12 U12 false) .ret) :: K)) w cs (Ret fU R) := by
 have hlen := hS.len
 intro d
 induction d with
 |zero =>
  intro i x kv w hd hi hI hkw h1 h5 h11 h12 h13
  obtain rfl : i = L := by omega
  rw [qzs]
  refine qf.seq (u3 h1 h5 h11 h12 h13 (t := false) (xdf (by omega)) fun y y1 y5 y11 y12 y13 y14 => ?_)
  refine qf.seq (qf.qdw (by decide) y14 ?_)
  refine qf.exit (k' := .code (.seq (.region 12 U12 false) .ret) :: K) rfl ?_
  refine qf.seq (u12 fun z z4 => ?_)
  exact qf.q2d Tryz.func11 (qy3 z4) (fun ρ => .int _ _) fun wc s => hR _ (hp.same s hI)
 |succ d ih =>
  intro i x kv w hd hi hI hkw h1 h5 h11 h12 h13
  have hil : i < L := by omega
  have hkeep := hp.keep _ _ hI
  obtain ⟨g, o0, rfl, hg, hgw, hcell⟩ := hS.at' (by omega)
  have hok := hS.ok i hil
  rw [qzs]
  refine qf.seq (u3 h1 h5 h11 h12 h13 (t := true) (xdt (by omega)) fun y y1 y5 y11 y12 y13 y14 => ?_)
  refine qf.seq (qf.qdw (by decide) y14 ?_)
  refine qf.skip ?_
  refine qf.seq (qf.block ?_)
  rw [jb2]
  refine qf.seq ?_
  refine u4 (o := os i) y1 y5 y11 y12 y13 hil (hN1 g hg) (xll hgw hkeep.size) (fun j v hj => (xcb (hkeep.keep g hgw (by omega))).trans (hcell i hil j v hj)) fun z z1 z5 z11 z12 z13 z6 z7 => ?_
  have hI1 : I i (w.alloc (.cells (os i).cells 30)) := hp.idle _ _ _ hI (But.of_below ((jo _ _).alloc (jy _) _))
  have hblk := heap_alloc_new w (.cells (os i).cells 30)
  generalize hob : w.heap.size = ob at *
  generalize w.alloc (.cells (os i).cells 30) = w1 at *
  have cells : ∀ w', Same w1 w' → ∀ (j : Nat) v, (os i).cells.toList[j]? = some v → w'.cell? ⟨ob, j, none⟩ = some v := fun w' s j v hj => by
   have hb : w'.heap[ob]? = some (.cells (os i).cells 30 (0, 0)) := by rw [s.heap]; exact hblk
   simp only [World.cell?, hb]
   rw [← hj, Array.getElem?_toList]
   exact if_neg (by decide)
  have c0 : ∀ w', Same w1 w' → w'.cell? ⟨ob, 0, none⟩ = some (.int .i64 (os i).k) := fun w' s => cells w' s 0 _ rfl
  -- the round's end
  have last : ∀ (a : Nat → Value) (w' : World) (kv' : List Value), I (i + 1) w' → .pointer (some ⟨Wb, 0, none⟩) ∈ kv' → a 1 = .int .i64 c → a 5 = .pointer (some ⟨Wb, 0, none⟩) → a 11 = .slice (some ⟨g, o0, none⟩) L cp → a 12 = .int .i64 L → a 13 = .int .i64 i →
    qf N kv' cs (bU.at ⟨lay 72 a, []⟩ (.code (.region 11 U11 false) :: .inLoop uL :: .inBlock 0 :: .code (.seq (.region 12 U12 false) .ret) :: K)) w' cs (Ret fU R) := by
   intro a w' kv' hI' hkw' a1 a5 a11 a12 a13
   refine u11 a1 a5 a11 a12 a13 (by omega) fun e e1 e5 e11 e12 e13 => ?_
   refine qf.inLoop ?_
   exact ih (i + 1) e _ w' (by omega) (by omega) hI' hkw' e1 e5 e11 e12 (by rw [e13]; rfl)
  rw [qzs] at last
  -- the step is je9
  have play : (c = 0 ∨ kr (os i).k ≤ kr c) → ∀ (a : Nat → Value) (w' : World), Same w1 w' → a 1 = .int .i64 c → a 5 = .pointer (some ⟨Wb, 0, none⟩) → a 11 = .slice (some ⟨g, o0, none⟩) L cp → a 12 = .int .i64 L → a 13 = .int .i64 i → a 6 = .int .i64 i → a 7 = .pointer (some ⟨ob, 0, none⟩) →
    qf N (.pointer (some ⟨ob, 0, none⟩) :: kv) cs (bU.at ⟨lay 72 a, []⟩ (.code (.seq (.region 6 U6 false) (.seq (.seq (.region 7 U7 false) (.cond (.tmp 57) uQ7 .skip)) (.seq (.region 9 U9 false) (.cond (.tmp 69) uQ9 .skip)))) :: .inBlock 1 :: .code (.region 11 U11 false) :: .inLoop (.seq (.region 3 U3 false) (.seq (.cond (.tmp 14) .skip (.exit 0)) (.seq (.block 1 uI) (.region 11 U11 false)))) :: .inBlock 0 :: .code (.seq (.region 12 U12 false) .ret) :: K)) w' cs (Ret fU R) := by
   intro hpl a w' s a1 a5 a11 a12 a13 a6 a7
   refine qf.seq ?_
   have six : (∀ b : Nat → Value, b 1 = .int .i64 c → b 5 = .pointer (some ⟨Wb, 0, none⟩) → b 11 = .slice (some ⟨g, o0, none⟩) L cp → b 12 = .int .i64 L → b 13 = .int .i64 i → b 6 = .int .i64 i → b 7 = .pointer (some ⟨ob, 0, none⟩) →
     qf N (.pointer (some ⟨ob, 0, none⟩) :: kv) cs (bU.at ⟨lay 72 b, []⟩ (.code (.seq (.seq (.region 7 U7 false) (.cond (.tmp 57) uQ7 .skip)) (.seq (.region 9 U9 false) (.cond (.tmp 69) uQ9 .skip))) :: .inBlock 1 :: .code (.region 11 U11 false) :: .inLoop (.seq (.region 3 U3 false) (.seq (.cond (.tmp 14) .skip (.exit 0)) (.seq (.block 1 uI) (.region 11 U11 false)))) :: .inBlock 0 :: .code (.seq (.region 12 U12 false) .ret) :: K)) w' cs (Ret fU R)) →
     qf N (.pointer (some ⟨ob, 0, none⟩) :: kv) cs (bU.at ⟨lay 72 a, []⟩ (.code (.region 6 U6 false) :: .code (.seq (.seq (.region 7 U7 false) (.cond (.tmp 57) uQ7 .skip)) (.seq (.region 9 U9 false) (.cond (.tmp 69) uQ9 .skip))) :: .inBlock 1 :: .code (.region 11 U11 false) :: .inLoop (.seq (.region 3 U3 false) (.seq (.cond (.tmp 14) .skip (.exit 0)) (.seq (.block 1 uI) (.region 11 U11 false)))) :: .inBlock 0 :: .code (.seq (.region 12 U12 false) .ret) :: K)) w' cs (Ret fU R) := by
    intro nx
    by_cases hc0 : c = 0
    ·exact u6d a1 a5 a11 a12 a13 a6 a7 (by simpa using hc0) nx
    have hc0' : (c == 0) = false := by simpa using hc0
    by_cases hu : (os i).k = c
    ·exact u6a (o := os i) a1 a5 a11 a12 a13 a6 a7 (.head _) (c0 w' s) hc0' (by simpa using hu) nx
    have hu' : ((os i).k == c) = false := by simpa using hu
    by_cases hs1 : c = -1
    ·exact u6c (o := os i) a1 a5 a11 a12 a13 a6 a7 (.head _) (c0 w' s) hc0' hu' (by simpa using hs1) rfl nx
    ·exact u6b (o := os i) a1 a5 a11 a12 a13 a6 a7 (.head _) (c0 w' s) hc0' hu' (by simpa using hs1) nx
   refine six fun b b1 b5 b11 b12 b13 b6 b7 => ?_
   refine qf.seq (qf.seq ?_)
   have hI2 := hp.same s hI1
   refine u7 (o := os i) (R := I (i + 1)) b1 b5 b11 b12 b13 b6 b7 (.head _) (List.mem_cons_of_mem _ hkw) (cells w' s) (fun _ _ s' h' => hp.same s' h') (hp.step i w' N _ hil hpl hI2 hN2) fun d w2 hI3 d1 d5 d11 d12 d13 d6 d7 d57 => ?_
   refine qf.qdw (by decide) d57 (qf.skip ?_)
   refine qf.seq ?_
   by_cases hc0 : c = 0
   ·refine u9c d1 d5 d11 d12 d13 d6 d7 (by simpa using hc0) (List.mem_cons_of_mem _ hkw) (hp.look (.inl hc0) hI3) fun e w3 hI4 e1 e5 e11 e12 e13 e69 => ?_
    refine qf.qdw (by decide) e69 (qf.skip (qf.inBlock ?_))
    exact last e w3 _ hI4 (List.mem_cons_of_mem _ hkw) e1 e5 e11 e12 e13
   have hc0' : (c == 0) = false := by simpa using hc0
   by_cases hs1 : c = -1
   ·refine u9b d1 d5 d11 d12 d13 d6 d7 hc0' (by simpa using hs1) (List.mem_cons_of_mem _ hkw) (hp.look (.inr hs1) hI3) fun e w3 hI4 e1 e5 e11 e12 e13 e69 => ?_
    refine qf.qdw (by decide) e69 (qf.skip (qf.inBlock ?_))
    exact last e w3 _ hI4 (List.mem_cons_of_mem _ hkw) e1 e5 e11 e12 e13
   ·refine u9a d1 d5 d11 d12 d13 d6 d7 hc0' (by simpa using hs1) fun e e1 e5 e11 e12 e13 e69 => ?_
    refine qf.qdw (by decide) e69 (qf.skip (qf.inBlock ?_))
    exact last e w2 _ hI3 (List.mem_cons_of_mem _ hkw) e1 e5 e11 e12 e13
  refine qf.seq (qf.seq ?_)
  by_cases hc0 : c = 0
  ·refine u5z z1 z5 z11 z12 z13 z6 z7 (by simpa using hc0) fun a a1 a5 a11 a12 a13 a6 a7 a27 => ?_
   refine qf.qdw (by decide) a27 (qf.skip ?_)
   exact play (.inl hc0) a w1 (Same.refl _) a1 a5 a11 a12 a13 a6 a7
  have hc0' : (c != 0) = true := by simpa using hc0
  by_cases hlt : kr c < kr (os i).k
  ·refine u5n (o := os i) z1 z5 z11 z12 z13 z6 z7 (.head _) (c0 w1 (Same.refl _)) hc0' (t := true) (xdt hlt) fun a w2 s a1 a5 a11 a12 a13 a6 a7 a27 => ?_
   refine qf.qdw (by decide) a27 ?_
   refine qf.exit rfl ?_
   exact last a w2 _ (hp.skip _ _ (hp.same s hI1)) (List.mem_cons_of_mem _ hkw) a1 a5 a11 a12 a13
  ·refine u5n (o := os i) z1 z5 z11 z12 z13 z6 z7 (.head _) (c0 w1 (Same.refl _)) hc0' (t := false) (xdf hlt) fun a w2 s a1 a5 a11 a12 a13 a6 a7 a27 => ?_
   refine qf.qdw (by decide) a27 (qf.skip ?_)
   exact play (.inr (by omega)) a w2 s a1 a5 a11 a12 a13 a6 a7
end
section
variable {kv : List Value} {w : World} {sp : Option Addr} {L cp nS : Nat} {os : Nat → OpV} {N : Blocks} {c : Int} {I : Nat → World → Prop}
theorem q3n (v u : Value) (t : Array Value) : (#[v, u] ++ t).getD 0 undef = v ∧ (#[v, u] ++ t).getD 1 undef = u := by
 constructor
 ·rw [Array.getD_eq_getD_getElem?, Array.getElem?_append_left (by simp)]; rfl
 ·rw [Array.getD_eq_getD_getElem?, Array.getElem?_append_left (by simp)]; rfl
theorem qqh {v u : Value} : Frame.enter XG.P fU #[v, u] .normal = bU.at ⟨lay 72 (fun i => (#[v, u] ++ Array.replicate 70 undef).getD i undef), []⟩ [.code uB] := by
 show Frame.enter Tryz.prog fU _ .normal = _
 rw [enter_at _ Tryz.func11 (show Tryz.f11.body = some uB from rfl)]
 have hn : Tryz.f11.ntmps = 72 := rfl
 rw [hn, qel (by simp)]
 rfl
def qh2 (w : World) : World := w.alloc (.cells #[.slice none 0 0, .slice none 0 0, .slice none 0 0, .bool false] 36)
theorem q7d (hp : qia w.heap.size L os c w.heap.size w I) (h0 : I 0 (qh2 w)) (hN1 : ∀ g, g < nS → N g) (hN2 : ∀ g, N g → g < w.heap.size) (hS : yj nS w sp L os) (hn : nS ≤ w.heap.size) :
  qk2 N kv fU #[.slice sp L cp, .int .i64 c] w fun v w' => v = .int .i64 (-1) ∧ But (fun b => w.heap.size ≤ b) w w' := fun ks => by
 rw [qqh, jb1]
 refine qf.seq (u0 (sp := sp) (L := L) (cp := cp) (c := c) (q3n _ _ _).1 (q3n _ _ _).2 fun y y0 y1 => ?_)
 refine qf.seq (u1 y0 y1 fun z z0 z1 z5 => ?_)
 refine qf.seq (qf.seq (u2 z0 z1 z5 fun a a1 a5 a11 a12 a13 => ?_))
 refine qf.block (qf.loop ?_)
 have hh : But (fun b => w.heap.size ≤ b) w (qh2 w) := But.of_below ((jo _ _).alloc (jy _) _)
 exact q7c hp hN1 hN2 hS hn (R := fun v w' => v = .int .i64 (-1) ∧ But (fun b => w.heap.size ≤ b) w w') (fun w' hI => ⟨rfl, hp.keep _ _ hI⟩) (L - 0) 0 a _ _ rfl (xzl _) h0 (.head _) a1 a5 a11 a12 a13
end
theorem qro (vs : Array Value) (w : World) : (callFunc fM vs).run Tryz.prog w = .ok (.enter fM vs) w ∧ (callFunc fM vs).events Tryz.prog w #[] = #[] := by
 have hf := Tryz.func10
 constructor <;> simp [callFunc, go_sem, hf, Tryz.f10]
theorem qu5 (vs : Array Value) (w : World) : (callFunc fU vs).run Tryz.prog w = .ok (.enter fU vs) w ∧ (callFunc fU vs).events Tryz.prog w #[] = #[] := by
 have hf := Tryz.func11
 constructor <;> simp [callFunc, go_sem, hf, Tryz.f11]
section
variable {kv : List Value} {cs cs1 : List Frame} {w : World} {Z : Frame → World → Prop} {K : List Item} {x : Nat → Value} {sp : Option Addr} {L cp : Nat} {os : Nat → OpV} {c : Int}
def qvl (w : World) (L : Nat) (os : Nat → OpV) (c : Int) : Prop := ∀ w1, But (fun _ => False) w w1 → L ≤ 262144 → ∃ I, qia w1.heap.size L os c w1.heap.size w1 I ∧ I 0 (qh2 w1)
theorem yj.ja3 {w w1 : World} (h : yj w.heap.size w sp L os) (hb : But (fun _ => False) w w1) : yj w.heap.size w1 sp L os := h.but (hb.mono fun _ => False.elim)
theorem q5m {f : FuncId} {ops : Array Oper} {o0 o1 o2 o3 o4 o5 o6 o7 o8 : Oper} (hbl : blG (base f).fn = true) (hops : ops = #[o0, o1, o2, o3, o4, o5, o6, o7, o8])
  (d0 : o0.dst = some 3 ∧ o0.guard = none ∧ o0.op = .move (.tmp 0)) (d1 : o1.dst = some 4 ∧ o1.guard = none ∧ o1.op = .call { callee := .value (.func fM), args := #[.tmp 3], argTypes := #[22] })
  (d2 : o2.dst = some 5 ∧ o2.guard = none ∧ o2.op = .unOp .not 4 (.tmp 4)) (d3 : o3.dst = some 6 ∧ o3.guard = none ∧ o3.op = .move (.tmp 5)) (d4 : o4.dst = some 7 ∧ o4.guard = some (3, false) ∧ o4.op = .move (.tmp 0))
  (d5 : o5.dst = some 8 ∧ o5.guard = some (3, false) ∧ o5.op = .call { callee := .value (.func fU), args := #[.tmp 7, .const (.int .i64 c)], argTypes := #[22, 3] })
  (d6 : o6.dst = some 9 ∧ o6.guard = some (3, false) ∧ o6.op = .binOp .eql 3 (.tmp 8) (.const (.int .i64 (-1))) 3) (d7 : o7.dst = some 10 ∧ o7.guard = none ∧ o7.op = .pick (.tmp 6) (.const (.bool true)) (.tmp 9)) (d8 : o8.dst = some 2 ∧ o8.guard = none ∧ o8.op = .assign (.tmp 10))
  (hx : x 0 = .slice sp L cp) (hS : yj w.heap.size w sp L os) (hp : qvl w L os c)
  (nx : ∀ (y : Nat → Value) w', But (fun b => w.heap.size ≤ b) w w' → y 2 = .bool true → qf (fun b => b < w.heap.size) kv cs ((base f).at ⟨lay 11 y, []⟩ K) w' cs1 Z) :
  qf (fun b => b < w.heap.size) kv cs ((base f).at ⟨lay 11 x, []⟩ (.inRegion ops [0, 1, 2, 3, 4, 5, 6, 7, 8] :: K)) w cs1 Z := by
 have hk : (base f).kind ≠ .early := by show CallKind.normal ≠ .early; decide
 obtain ⟨d0, g0, p0⟩ := d0
 obtain ⟨d1, g1, p1⟩ := d1
 obtain ⟨d2, g2, p2⟩ := d2
 obtain ⟨d3, g3, p3⟩ := d3
 obtain ⟨d4, g4, p4⟩ := d4
 obtain ⟨d5, g5, p5⟩ := d5
 obtain ⟨d6, g6, p6⟩ := d6
 obtain ⟨d7, g7, p7⟩ := d7
 obtain ⟨d8, g8, p8⟩ := d8
 have q0 : ops[0]? = some o0 := by subst hops; rfl
 have q1 : ops[1]? = some o1 := by subst hops; rfl
 have q2 : ops[2]? = some o2 := by subst hops; rfl
 have q3 : ops[3]? = some o3 := by subst hops; rfl
 have q4 : ops[4]? = some o4 := by subst hops; rfl
 have q5 : ops[5]? = some o5 := by subst hops; rfl
 have q6 : ops[6]? = some o6 := by subst hops; rfl
 have q7 : ops[7]? = some o7 := by subst hops; rfl
 have q8 : ops[8]? = some o8 := by subst hops; rfl
 refine qf.bv hbl hk (.slice sp L cp) q0 d0 (qb g0) (Pure.move p0 (qp hx)) ?_
 refine qf.q3p hbl q1 d1 (qb g1) hk (qeh (vs := #[.slice sp L cp]) p1 rfl (congrArg (fun v => [v]) (qp rfl)) (qro _)) Tryz.func10 (fun ρ _ h => by cases h) (fun v w1 wc s ⟨t, h1, h2, h3⟩ => ⟨t, h1, h2, h3.trans (But.same' s)⟩) (q2q (n0 := w.heap.size) (fun g hg => hg) hS (jy _)) ?_
 rintro _ w1 ⟨t, rfl, ht, hb⟩
 refine qf.bv hbl hk (.bool (!t)) q2 d2 (qb g2) (Pure.not p2 (qp rfl) rfl) ?_
 refine qf.bv hbl hk (.bool (!t)) q3 d3 (qb g3) (Pure.move p3 (qp rfl)) ?_
 cases t
 ·refine qf.bu hbl q4 d4 (qd g4 q3 d3 (by decide) rfl rfl) ?_
  refine qf.bu hbl q5 d5 (qd g5 q3 d3 (by decide) rfl rfl) ?_
  refine qf.bu hbl q6 d6 (qd g6 q3 d3 (by decide) rfl rfl) ?_
  refine qf.bv hbl hk (.bool true) q7 d7 (qb g7) (Pure.qhc p7 (qp rfl) rfl) ?_
  refine qf.bv hbl hk (.bool true) q8 d8 (qb g8) (Pure.assign p8 (qp rfl)) ?_
  exact qf.regionEnd (nx _ w1 (hb.mono fun _ => False.elim) rfl)
 ·have hx' := hx
  obtain ⟨I, hI1, hI2⟩ := hp w1 hb (ht rfl)
  refine qf.bv hbl hk (.slice sp L cp) q4 d4 (qd g4 q3 d3 (by decide) rfl rfl) (Pure.move p4 (qp hx')) ?_
  refine qf.q3p hbl q5 d5 (qd g5 q3 d3 (by decide) rfl rfl) hk (qeh (vs := #[.slice sp L cp, .int .i64 c]) p5 rfl (congrArg (fun v => [v, Value.int .i64 c]) (qp rfl)) (qu5 _)) Tryz.func11 (fun ρ _ h => by cases h) (fun v w2 wc s ⟨h1, h2⟩ => ⟨h1, h2.trans (But.same' s)⟩) (q7d (nS := w.heap.size) hI1 hI2 (fun g hg => hg) (fun g hg => xll hg hb.size) (hS.ja3 hb) hb.size) ?_
  rintro _ w2 ⟨rfl, hb2⟩
  refine qf.bv hbl hk (.bool true) q6 d6 (qd g6 q3 d3 (by decide) rfl rfl) (Pure.eql p6 (qp rfl) rfl rfl) ?_
  refine qf.bv hbl hk (.bool true) q7 d7 (qb g7) (Pure.qev p7 (qp rfl) (qp rfl)) ?_
  refine qf.bv hbl hk (.bool true) q8 d8 (qb g8) (Pure.assign p8 (qp rfl)) ?_
  refine qf.regionEnd (nx _ w2 ((hb.mono fun _ => False.elim).trans (hb2.mono fun b h => xlt hb.size h)) rfl)
theorem jal {f : FuncId} {fn : Func} {p0 o0 o1 o2 o3 o4 o5 o6 o7 o8 : Oper} (hbl : blG f = true) (hf : XG.P.funcs[f]? = some fn) (hr : fn.results = #[.tmp 2]) (hn : fn.ntmps = 11)
  (hbody : fn.body = some (.seq (.region 0 #[p0] false) (.seq (.region 1 #[o0, o1, o2, o3, o4, o5, o6, o7, o8] false) .ret))) (e0 : p0.dst = some 2 ∧ p0.guard = none ∧ p0.op = .assign (.const (.bool false)))
  (d0 : o0.dst = some 3 ∧ o0.guard = none ∧ o0.op = .move (.tmp 0)) (d1 : o1.dst = some 4 ∧ o1.guard = none ∧ o1.op = .call { callee := .value (.func fM), args := #[.tmp 3], argTypes := #[22] })
  (d2 : o2.dst = some 5 ∧ o2.guard = none ∧ o2.op = .unOp .not 4 (.tmp 4)) (d3 : o3.dst = some 6 ∧ o3.guard = none ∧ o3.op = .move (.tmp 5)) (d4 : o4.dst = some 7 ∧ o4.guard = some (3, false) ∧ o4.op = .move (.tmp 0))
  (d5 : o5.dst = some 8 ∧ o5.guard = some (3, false) ∧ o5.op = .call { callee := .value (.func fU), args := #[.tmp 7, .const (.int .i64 c)], argTypes := #[22, 3] })
  (d6 : o6.dst = some 9 ∧ o6.guard = some (3, false) ∧ o6.op = .binOp .eql 3 (.tmp 8) (.const (.int .i64 (-1))) 3) (d7 : o7.dst = some 10 ∧ o7.guard = none ∧ o7.op = .pick (.tmp 6) (.const (.bool true)) (.tmp 9)) (d8 : o8.dst = some 2 ∧ o8.guard = none ∧ o8.op = .assign (.tmp 10))
  (hS : yj w.heap.size w sp L os) (hp : qvl w L os c) :
  qf (fun b => b < w.heap.size) kv [] (Frame.enter XG.P f #[.slice sp L cp] .normal) w [] (Ret f fun v w' => v = .bool true ∧ But (fun b => w.heap.size ≤ b) w w') := by
 have henter : Frame.enter XG.P f #[.slice sp L cp] .normal = (base f).at ⟨lay 11 (fun i => (#[Value.slice sp L cp] ++ Array.replicate 10 undef).getD i undef), []⟩ [.code (.seq (.region 0 #[p0] false) (.seq (.region 1 #[o0, o1, o2, o3, o4, o5, o6, o7, o8] false) .ret))] := by
  rw [enter_at (P := XG.P) _ hf hbody, hn, qel (by simp)]
  rfl
 rw [henter]
 have hk : (base f).kind ≠ .early := by show CallKind.normal ≠ .early; decide
 have q9c : blG (base f).fn = true := hbl
 obtain ⟨e0, eg, ep⟩ := e0
 refine qf.seq (qf.region ?_)
 change qf _ kv [] ((base f).at ⟨lay 11 _, []⟩ (.inRegion #[p0] [0] :: _)) w [] _
 refine qf.bv q9c hk (.bool false) (o := p0) rfl e0 (qb eg) (Pure.assign ep rfl) ?_
 refine qf.regionEnd (qf.seq (qf.region ?_))
 change qf _ kv [] ((base f).at ⟨lay 11 _, []⟩ (.inRegion _ [0, 1, 2, 3, 4, 5, 6, 7, 8] :: _)) w [] _
 refine q5m q9c rfl d0 d1 d2 d3 d4 d5 d6 d7 d8 (sp := sp) (L := L) (cp := cp) ((if_neg (by decide)).trans (q8t _ _)) hS hp fun y w' hb y2 => ?_
 exact qf.q2d hf (fun w => by
  have := qi6 hr (lay 11 y) w
  rw [qj4 (by decide), y2] at this
  exact this) (fun ρ => .bool _) fun wc s => ⟨rfl, hb.trans (But.same' s)⟩
end
end
section
open Go.Conc Go.ConcN Go.RowKit Go.Conc.Lib Go Sim
open Go.ChangeShapes Go.WideShapes Go.ChangeAt Go.Deep
theorem qxn : laidOutB Tryz.prog = true := by kernel_rfl
theorem qyo : ownKnob Tryz.prog.godebug = none := by kernel_rfl
section
variable {H : Type} {enc : TypeId × Value → H}
theorem qik {P : Program} {e : TypeId} {d : DataW H} {n : Nat} : ∀ {l : List (DataW H)}, d ∈ l → n ∈ d.weights P e → n ∈ DataW.weightsAll P e l
 |x :: l, hd, hn => by
  unfold DataW.weightsAll
  rcases List.mem_cons.1 hd with rfl | hd
  ·exact List.mem_append_left _ hn
  ·exact List.mem_append_right _ (qik hd hn)
theorem jbd {w : World} {base : Nat} {spare : Nat → Bool} {held : Bool} {n : Nat} {a : Addr} {x : DataW H × List MemPlace} {cs : List Value} (hc : w.cells? base a 10 = some cs) (h : DataW.trod enc Tryz.prog w base spare held n 30 cs = some x)
  (hw : ∀ m ∈ x.1.weights Tryz.prog 30, m ≤ reachBytes) : ∃ o : OpV, OpV.Ok o ∧ ∀ (j : Nat) v, o.cells.toList[j]? = some v → w.cell? (a.add j) = some v := by
 obtain ⟨_, hl, hcell⟩ := World.cells?_some hc
 obtain ⟨xs, n', _, rfl, _, hxs, hf⟩ := DataW.trod_struct Tryz.underlying30 h
 match cs, hl with
 | [c0, c1, c2, c3, c4, c5, c6, c7, c8, c9], _ =>
  have ci : Tryz.prog.cellsOf 3 = 1 := by kernel_rfl
  have cstr : Tryz.prog.cellsOf 9 = 1 := by kernel_rfl
  have qqx : ∀ {c : Value} {y : DataW H × List MemPlace}, DataW.trod enc Tryz.prog w base spare held n' 3 [c] = some y → ∃ z : Int, c = .int .i64 z ∧ -9223372036854775808 ≤ z ∧ z ≤ 9223372036854775807 := fun {c y} hy => by
   obtain ⟨z, h1, _, h3⟩ := DataW.trod_int Tryz.underlying3 hy
   have h1 : c = .int .i64 z := by simpa using h1
   have h3 : (decide (IntKind.i64.min ≤ z) && decide (z ≤ IntKind.i64.max)) = true := h3
   simp only [Bool.and_eq_true, decide_eq_true_eq] at h3
   exact ⟨z, h1, by simpa [IntKind.min, IntKind.signed, IntKind.bits] using h3.1, by simpa [IntKind.max, IntKind.signed, IntKind.bits] using h3.2⟩
  have q6t : ∀ {c : Value} {y : DataW H × List MemPlace}, DataW.trod enc Tryz.prog w base spare held n' 9 [c] = some y → ∃ s : ByteArray, c = .string s ∧ y.1 = .lit (.string s.data.toList) := fun {c y} hy => by
   obtain ⟨s, h1, h2, _⟩ := DataW.trod_string Tryz.underlying9 hy
   exact ⟨s, by simpa using h1, by rw [h2]⟩
  match xs, hxs with
  | [y0, y1, y2, y3, y4, y5, y6, y7, y8, y9], _ =>
   have t0 := hf 0 _ rfl
   have t1 := hf 1 _ rfl
   have t2 := hf 2 _ rfl
   have t3 := hf 3 _ rfl
   have t4 := hf 4 _ rfl
   have t5 := hf 5 _ rfl
   have t6 := hf 6 _ rfl
   have t7 := hf 7 _ rfl
   have t8 := hf 8 _ rfl
   have t9 := hf 9 _ rfl
   simp only [ci, cstr, List.drop_succ_cons, List.drop_zero, List.take_succ_cons, List.take_zero, List.getElem?_cons_zero, List.getElem?_cons_succ] at t0 t1 t2 t3 t4 t5 t6 t7 t8 t9
   obtain ⟨k, rfl, k1⟩ := qqx t0
   obtain ⟨za, rfl, a1⟩ := qqx t1
   obtain ⟨zb, rfl, b1⟩ := qqx t2
   obtain ⟨zc, rfl, e1⟩ := qqx t3
   obtain ⟨zd, rfl, d1⟩ := qqx t4
   obtain ⟨ze, rfl, f1⟩ := qqx t5
   obtain ⟨zf, rfl, g1⟩ := qqx t6
   obtain ⟨s, rfl, s1⟩ := q6t t7
   obtain ⟨t, rfl, u1⟩ := q6t t8
   obtain ⟨u, rfl, v1⟩ := q6t t9
   have hr : ∀ m ∈ DataW.weightsEach Tryz.prog [3, 3, 3, 3, 3, 3, 3, 9, 9, 9] [y0.1, y1.1, y2.1, y3.1, y4.1, y5.1, y6.1, y7.1, y8.1, y9.1], m ≤ reachBytes := fun m hm => hw m (by
    have hu := Tryz.underlying30
    show m ∈ DataW.weights Tryz.prog 30 (.agg [y0.1, y1.1, y2.1, y3.1, y4.1, y5.1, y6.1, y7.1, y8.1, y9.1])
    unfold DataW.weights
    rw [hu]
    exact hm)
   have big : ∀ (j : Nat) (d : DataW H) (b : ByteArray), [3, 3, 3, 3, 3, 3, 3, 9, 9, 9][j]? = some 9 → [y0.1, y1.1, y2.1, y3.1, y4.1, y5.1, y6.1, y7.1, y8.1, y9.1][j]? = some d → d = .lit (.string b.data.toList) → b.size ≤ 140737488355328 := fun j d b h1 h2 h3 => by
    have := hr _ (DataW.weights_mem_each h1 h2 b.data.toList.length (by subst h3; simp [DataW.weights]))
    have e : b.data.toList.length = b.size := by simp
    unfold reachBytes at this
    omega
   refine ⟨⟨k, za, zb, zc, zd, ze, zf, s, t, u⟩, ⟨k1, a1, b1, e1, d1, f1, g1, big 7 _ s rfl rfl s1, big 8 _ t rfl rfl u1, big 9 _ u rfl rfl v1⟩, fun j v hj => ?_⟩
   have hj10 : j < 10 := (List.getElem?_eq_some_iff.1 hj).1
   rw [hcell j hj10]
   exact hj
theorem quu {W : World} {sp : Option Addr} {L cp : Nat} {base : Nat} {d0 : DataW H} {p : List MemPlace} (h0 : DataW.Trod enc Tryz.prog W 0 (fun _ => true) true 22 (.slice sp L cp) d0 p)
  (hv : Value.okWide Tryz.prog W .any base 22 (.slice sp L cp)) (hsz : (DataW.weightsEach Tryz.prog [22] [d0]).all (· ≤ reachBytes) = true) (hlt : ∀ x ∈ p, x.block < W.heap.size) :
  ∃ os, yj W.heap.size W sp L os := by
 obtain ⟨fuel, hf⟩ := h0
 have hC : Tryz.prog.cellsOf 30 = 10 := by kernel_rfl
 have hu := Tryz.underlying22
 rcases open_slice hu hf with ⟨e, _⟩ | ⟨a, len, cap, m, n, D, Pl, e, _, hl, hcap, hm, hx, hel⟩
 ·have e : (#[Value.slice sp L cp] : Array Value).toList = [.slice none 0 0] := e
  simp at e
  obtain ⟨rfl, rfl, rfl⟩ := e
  exact ⟨fun _ => ⟨0, 0, 0, 0, 0, 0, 0, ⟨#[]⟩, ⟨#[]⟩, ⟨#[]⟩⟩, fun h => absurd h (by omega), fun i hi => absurd hi (by omega), by omega⟩
 ·have e : (#[Value.slice sp L cp] : Array Value).toList = [.slice (some a) len cap] := e
  simp at e
  obtain ⟨rfl, rfl, rfl⟩ := e
  simp only [if_true] at hm
  subst m
  rw [hC] at hx hel
  simp only [Prod.mk.injEq] at hx
  obtain ⟨rfl, rfl⟩ := hx
  have hspot : a.spot = none := by
   simp only [Value.okWide, hu, Cell.okWide, Cell.ok, World.has] at hv
   exact hv.2.2.2.1
  obtain ⟨g, o0, sp0⟩ := a
  have hspot : sp0 = none := hspot
  subst hspot
  have hall : ∀ x ∈ DataW.weightsEach Tryz.prog [22] [.slice ((List.range L).map D) ((List.range (cp - L)).map fun j => D (L + j))], x ≤ reachBytes := fun x hx => by
   have := List.all_eq_true.1 hsz x hx
   simpa using this
  have hw1 : ∀ x ∈ DataW.weights Tryz.prog 22 (.slice ((List.range L).map D) ((List.range (cp - L)).map fun j => D (L + j))), x ≤ reachBytes := fun x hx => hall x (by unfold DataW.weightsEach; exact List.mem_append_left _ hx)
  have hwu : DataW.weights Tryz.prog 22 (.slice ((List.range L).map D) ((List.range (cp - L)).map fun j => D (L + j))) = (((List.range L).map D).length + ((List.range (cp - L)).map fun j => D (L + j)).length) * Tryz.prog.bytesOf 30 :: (DataW.weightsAll Tryz.prog 30 ((List.range L).map D) ++ DataW.weightsAll Tryz.prog 30 ((List.range (cp - L)).map fun j => D (L + j))) := by
   rw [DataW.weights]
   rw [hu]
  rw [hwu] at hw1
  have hlen : L ≤ 140737488355328 := by
   have hb : Tryz.prog.bytesOf 30 = 104 := by kernel_rfl
   have := hw1 _ (.head _)
   rw [hb] at this
   simp only [List.length_map, List.length_range] at this
   unfold reachBytes at this
   omega
  have key : ∀ i, ∃ o : OpV, i < L → OpV.Ok o ∧ ∀ (j : Nat) v, o.cells.toList[j]? = some v → W.cell? ⟨g, o0 + i * 10 + j, none⟩ = some v := fun i => by
   by_cases hi : i < L
   ·obtain ⟨cs', hc, ht⟩ := hel i (by omega)
    obtain ⟨o, h1, h2⟩ := jbd hc ht fun x hx => hw1 x (.tail _ (List.mem_append_left _ (qik (List.mem_map.2 ⟨i, List.mem_range.2 hi, rfl⟩) hx)))
    refine ⟨o, fun _ => ⟨h1, fun j v hj => ?_⟩⟩
    have := h2 j v hj
    rwa [Addr.add_lit, Addr.add_lit] at this
   ·exact ⟨⟨0, 0, 0, 0, 0, 0, 0, ⟨#[]⟩, ⟨#[]⟩, ⟨#[]⟩⟩, fun h => absurd h hi⟩
  obtain ⟨os, hos⟩ := Classical.axiomOfChoice key
  refine ⟨os, fun hL => ⟨g, o0, rfl, ?_, ?_, fun i hi => (hos i hi).2⟩, fun i hi => (hos i hi).1, hlen⟩
  all_goals
   have hmem : (MemPlace.cell g o0) ∈ MemPlace.row ⟨g, o0, none⟩ (cp * 10) ++ (List.range cp).flatMap Pl := List.mem_append_left _ (MemPlace.mem_row.2 ⟨0, by omega, by simp⟩)
   exact hlt _ hmem
end
section
variable {H : Type} {enc : TypeId × Value → H}
theorem qxp {f : FuncId} {args : Array Value} {W : World} {N : Blocks} {Post : Value → World → Prop} (hbl : blG f = true) (hi : XG.P.inits.idxOf? f = none)
  (h : qf N [] [] (Frame.enter XG.P f args .normal) W [] (Ret f fun v w' => v = .bool true ∧ But (fun b => W.heap.size ≤ b) W w')) (hp : ∀ w', But (fun b => W.heap.size ≤ b) W w' → Post (.bool true) w') :
  ∃ M last o w' t', runNT XG.P (M + 1) (solo (G (Frame.enter XG.P f args .normal) []) W) #[] = (.ended o w', t') ∧ runN XG.P M (solo (G (Frame.enter XG.P f args .normal) []) W) = .next last ∧ step XG.P last = .ended o w' ∧ Conc.Good XG.P Post last o w' t' :=
 q1i (ρ := fun _ _ => False) h (fun hb => by rw [qjx, hbl] at hb; cases hb) ⟨fun h _ => h.elim, fun h _ => h.elim, fun h => h.elim, fun _ _ => rfl, fun _ h => h.elim⟩ (fun v hv => by cases hv) hi
  fun v w1 wc s ⟨h1, h2⟩ => by subst h1; exact hp wc (h2.trans (But.same' s))
theorem qv6 {t : TypeId} (hr : Tryz.prog.readableRec t = true) (hrow : t < Tryz.prog.types.size) {W W' : World} {v : Value} {d : DataW H} {ps : List MemPlace} (h : DataW.Trod enc Tryz.prog W 0 (fun _ => true) true t v d ps) (hb : But (fun b => W.heap.size ≤ b) W W') (hlt : ∀ x ∈ ps, x.block < W.heap.size) :
  DataW.Trod enc Tryz.prog W' 0 (fun b => decide (b < W.heap.size)) true t v d ps :=
 WideElems.Trod_stays qxn hr hrow h (fun x hx => by
  have hx' := hlt x hx
  cases x with
  |cell b o => exact xcb (w := W) (hb.keep b hx' (Nat.not_le.2 hx'))
  |map b => exact hb.keep b hx' (Nat.not_le.2 hx')) (fun x hx => by simpa using hlt x hx)
theorem qtl {W w' : World} (h : But (fun b => W.heap.size ≤ b) W w') (may : MemPlace → Prop) : W.keptBut w' may := by
 refine ⟨h.os, h.output, fun i hi => ?_⟩
 rw [h.keep i hi (Nat.not_le.2 hi)]
 split <;> simp_all
end
end
end Go.Proofs.YtkpekiajdlolnabGreat.Ph
namespace Go.Proofs.YtkpekiajdlolnabGreat
open Go.RowKit Go.Maps
structure qji where
 cs : Value
 bs : Value
 out : Nat → Prop
section
variable {n0 : Nat} {CS : qji} {w : World}
def mnK : ByteArray := ⟨#[109, 105, 110, 101]⟩
def mnV (k : Nat) : ByteArray := ⟨#[UInt8.ofNat (k % 256), UInt8.ofNat (k / 256 % 256), UInt8.ofNat (k / 65536 % 256)]⟩
theorem qq2 (k : Nat) (hk : k ≤ 4398046511104) : Calls Tryz.prog 38 #[.int .i64 k] w fun e w' => (∃ a b : ByteArray, (a = mnK ∧ b = mnV k) ∧ e = .returned (.agg #[.string a, .string b])) ∧ Below w.heap.size w w' := by
 obtain ⟨a0, h0, g0⟩ : ∃ b : UInt8, (b.toNat : Int) = (k : Int) % 256 ∧ UInt8.ofNat (k % 256) = b := ⟨UInt8.ofNat (k % 256), by simp, rfl⟩
 obtain ⟨a1, h1, g1⟩ : ∃ b : UInt8, (b.toNat : Int) = (k : Int) / 256 % 256 ∧ UInt8.ofNat (k / 256 % 256) = b := ⟨UInt8.ofNat (k / 256 % 256), by simp, rfl⟩
 obtain ⟨a2, h2, g2⟩ : ∃ b : UInt8, (b.toNat : Int) = (k : Int) / 65536 % 256 ∧ UInt8.ofNat (k / 65536 % 256) = b := ⟨UInt8.ofNat (k / 65536 % 256), by simp, rfl⟩
 have hm : (⟨#[a0, a1, a2]⟩ : ByteArray) = mnV k := by unfold mnV; rw [g0, g1, g2]
 have HM := Lib.hid hm
 clear g0 g1 g2 hm
 have hcv : (convert 139 9 (.slice (some ⟨w.heap.size + 1, 0, none⟩) 3 3)).run Tryz.prog ((w.alloc (.cells #[.string ⟨#[]⟩, .string ⟨#[]⟩] 74)).alloc (.cells #[.int .u8 ((k : Int) % 256), .int .u8 ((k : Int) / 256 % 256), .int .u8 ((k : Int) / 65536 % 256)] 5)) = .ok (.string ⟨#[a0, a1, a2]⟩) _ :=
  run_convert_bytes_back (P := Tryz.prog) _ 139 9 5 ⟨w.heap.size + 1, 0, none⟩ 3 [a0, a1, a2] Tryz.underlying139 Tryz.underlying5 Tryz.underlying9 (fun j hj => by
   rw [Addr.add_lit, Nat.zero_add]
   match j, hj with
   |0, _ => rw [show ([a0, a1, a2][0].toNat : Int) = _ from h0]; go_simp
   |1, _ => rw [show ([a0, a1, a2][1].toNat : Int) = _ from h1]; go_simp
   |2, _ => rw [show ([a0, a1, a2][2].toNat : Int) = _ from h2]; go_simp)
 clear h0 h1 h2
 go_enter Tryz.func38, Tryz.ntmps38
 go_wp2
 refine bodyPost_ret (v := .agg #[.string ⟨#[109, 105, 110, 101]⟩, .string ⟨#[a0, a1, a2]⟩]) (by simp [results, Tryz.results38, go_sem]) rfl ⟨⟨_, _, ⟨rfl, HM.out⟩, rfl⟩, ((jo _ _).alloc (jy _) _).alloc (by simp) _⟩
def qei (w : World) : Value → List Value
 | .slice (some a) n _ => match w.heap[a.block]? with
  |some (.cells cur _ _) => cur.toList.take n
  |_ => []
 |_ => []
def qad (w : World) (S : Value) (g : Nat) : Prop := ∃ l ∈ qei w S, l.ownBlock = some g
theorem qaa {S : Value} {b n : Nat} {ty : TypeId} {xs : List Value} (h : w.ownsRow b ty 1 S n xs) : qei w S = xs := by
 rcases h.2 with ⟨rfl, hz⟩ | ⟨g, cap, cur, rfl, _, h2, _, _, _, h6⟩
 ·have : xs = [] := List.length_eq_zero_iff.1 (by rw [h.1, hz])
  rw [this]; rfl
 ·show (match w.heap[g]? with | some (.cells cur _ _) => cur.toList.take n | _ => []) = xs
  rw [h2, ← h6, Nat.mul_one]
theorem x9 {w' : World} {S : Value} (h : ∀ g, S.ownBlock = some g → w'.heap[g]? = w.heap[g]?) : qei w' S = qei w S := by
 cases S with
 |slice p n c =>
  cases p with
  |none => rfl
  |some a =>
   show (match w'.heap[a.block]? with | some (.cells cur _ _) => cur.toList.take n | _ => []) = (match w.heap[a.block]? with | some (.cells cur _ _) => cur.toList.take n | _ => [])
   rw [h a.block rfl]
 |_ => rfl
def qbu (w : World) (k : Nat) (l : Value) : Prop := ∃ m ys, w.ownsRow 0 74 2 l m ys ∧ ∀ i, i < m → ys[i * 2]? = some (.string mnK) ∧ ys[i * 2 + 1]? = some (.string (mnV k))
structure qbw (n0 : Nat) (w : World) (W : Nat) (CS : qji) (S : Value) (n : Nat) : Prop where
 b : ∃ cur, w.heap[W]? = some (.cells cur 36 (0, 0)) ∧ cur[2]? = some S ∧ cur[0]? = some CS.cs ∧ cur[1]? = some CS.bs ∧ cur[3]? = some (.bool false)
 row : ∃ xs, w.ownsRow n0 47 1 S n xs
 kept : ∀ k l, (qei w S)[k]? = some l → qbu w k l
 out : ∀ g, qad w S g → ¬ CS.out g
theorem qbw.qi0 {W : Nat} {S : Value} {n : Nat} (h : qbw n0 w W CS S n) {g : Nat} (hg : qad w S g) : ∃ cur, w.heap[g]? = some (.cells cur 74 (0, 0)) := by
 obtain ⟨l, hl, e⟩ := hg
 obtain ⟨k, hk⟩ := List.mem_iff_getElem?.1 hl
 obtain ⟨m, ys, hr, _⟩ := h.kept k l hk
 rcases hr.2 with ⟨rfl, _⟩ | ⟨g', cap, cur, rfl, _, h2, _⟩
 ·cases e
 ·cases e; exact ⟨cur, h2⟩
theorem qbw.cell {W : Nat} {S : Value} {n : Nat} (h : qbw n0 w W CS S n) : w.cell? ⟨W, 2, none⟩ = some S ∧ w.frozen? ⟨W, 2, none⟩ = false ∧ W < w.heap.size := by
 obtain ⟨cur, h1, h2, h2b⟩ := h.b
 exact ⟨by simp [World.cell?, h1, h2], by simp [World.frozen?, h1], (zx h1).1⟩
theorem qj {w w' : World} {base n size : Nat} {ty : TypeId} {v : Value} {xs : List Value} (h : w.ownsRow base ty size v n xs) (k : ∀ g, v.ownBlock = some g → w'.heap[g]? = w.heap[g]?) : w'.ownsRow base ty size v n xs := by
 refine ⟨h.1, h.2.imp id ?_⟩
 rintro ⟨g, cap, cur, rfl, h1, h2, h3⟩
 exact ⟨g, cap, cur, rfl, h1, (k g rfl).trans h2, h3⟩
theorem qbw.block {w w' : World} {W : Nat} {S : Value} {n : Nat} (h : qbw n0 w W CS S n) (hW : w'.heap[W]? = w.heap[W]?) (hS : ∀ g, S.ownBlock = some g → w'.heap[g]? = w.heap[g]?) (hL : ∀ g, qad w S g → w'.heap[g]? = w.heap[g]?) : qbw n0 w' W CS S n := by
 obtain ⟨cur, h1, h2, h2b⟩ := h.b
 obtain ⟨xs, h3⟩ := h.row
 refine ⟨⟨cur, hW.trans h1, h2, h2b⟩, ⟨xs, qj h3 hS⟩, fun k l hk => ?_, fun g hg => h.out g (by unfold qad at hg ⊢; rw [x9 hS] at hg; exact hg)⟩
 rw [x9 hS] at hk
 obtain ⟨m, ys, hr, hm⟩ := h.kept k l hk
 exact ⟨m, ys, qj hr fun g hg => hL g ⟨l, List.mem_of_getElem? hk, hg⟩, hm⟩
theorem jq {w : World} {base n size : Nat} {ty : TypeId} {v : Value} {xs : List Value} (h : w.ownsRow base ty size v n xs) {g : Nat} (hg : v.ownBlock = some g) : ∃ cur, w.heap[g]? = some (.cells cur ty (0, 0)) := by
 rcases h.2 with ⟨rfl, _⟩ | ⟨g', cap, cur, rfl, _, h2, _⟩
 ·cases hg
 ·cases hg; exact ⟨cur, h2⟩
def qgt (W : Nat) (S l : Value) (b : Nat) : Prop := b = W ∨ S.ownBlock = some b ∨ l.ownBlock = some b
structure MnW (n0 : Nat) (CS : qji) (w0 : World) (W n m base g cap k : Nat) (S : Value) (x y : ByteArray) (j : Nat) (w : World) : Prop where
 ls : qbw n0 w W CS S n
 row : ∃ xs, w.ownsRow base 74 2 (.slice (some ⟨g, 0, none⟩) m cap) m xs ∧ ∀ i, i < j → xs[i * 2]? = some (.string x) ∧ xs[i * 2 + 1]? = some (.string y)
 new : ∀ g', qad w S g' → g' ≠ g
 mrk : w.heap[k]? = some (.cells #[.string x, .string y] 74 (0, 0))
 gk : g < k
 but : But (qgt W S (.slice (some ⟨g, 0, none⟩) m cap)) w0 w
section
variable {w0 : World} {W n m base g cap k : Nat} {S : Value} {x y : ByteArray}
theorem MnW.cells (j : Nat) (h : MnW n0 CS w0 W n m base g cap k S x y j w) (hj : j < m) : (∃ v, w.cell? ⟨g, j * 2, none⟩ = some v) ∧ (∃ v, w.cell? ⟨g, j * 2 + 1, none⟩ = some v) ∧ w.frozen? ⟨g, j * 2, none⟩ = false ∧ w.frozen? ⟨g, j * 2 + 1, none⟩ = false ∧ w.cell? ⟨k, 0, none⟩ = some (.string x) ∧ w.cell? ⟨k, 1, none⟩ = some (.string y) := by
 obtain ⟨xs, h1, _⟩ := h.row
 rcases h1.2 with ⟨e, _⟩ | ⟨g', cap', cur, e, _, h2, h3, _, h5, _⟩
 ·cases e
 ·injection e with e1 e2 e3
  injection e1 with e1
  injection e1 with e1
  subst e1; subst e3
  have a1 : j * 2 < cur.size := by omega
  have a2 : j * 2 + 1 < cur.size := by omega
  exact ⟨⟨cur[j * 2], by simp [World.cell?, h2, a1]⟩, ⟨cur[j * 2 + 1], by simp [World.cell?, h2, a2]⟩, by simp [World.frozen?, h2], by simp [World.frozen?, h2], by simp [World.cell?, h.mrk], by simp [World.cell?, h.mrk]⟩
theorem MnW.stored (j : Nat) (h : MnW n0 CS w0 W n m base g cap k S x y j w) (hj : j < m) : MnW n0 CS w0 W n m base g cap k S x y (j + 1) ((w.setCell ⟨g, j * 2, none⟩ (.string x)).setCell ⟨g, j * 2 + 1, none⟩ (.string y)) := by
 obtain ⟨xs, h1, hmk⟩ := h.row
 rcases h1.2 with ⟨e, _⟩ | ⟨g', cap', cur, e, hb, h2, h3, h4, h5, h6⟩
 ·cases e
 ·injection e with e1 e2 e3
  injection e1 with e1
  injection e1 with e1
  subst e1; subst e3
  have s1 := xhs w g (j * 2) cur _ (.string x) h2
  have s2 := xhs _ g (j * 2 + 1) _ _ (.string y) s1
  have ho : ∀ b, b ≠ g → ((w.setCell ⟨g, j * 2, none⟩ (.string x)).setCell ⟨g, j * 2 + 1, none⟩ (.string y)).heap[b]? = w.heap[b]? := fun b hb => by
   rw [xho _ _ _ _ hb, xho _ _ _ _ hb]
  obtain ⟨cw, hw1, _, _⟩ := h.ls.b
  have hS : ∀ g', S.ownBlock = some g' → g' ≠ g := fun g' hg' e => by
   obtain ⟨zs, hz⟩ := h.ls.row
   obtain ⟨cz, hc⟩ := jq hz hg'
   rw [e, h2] at hc
   cases hc
  refine ⟨h.ls.block (ho W fun e => by rw [e, h2] at hw1; cases hw1) (fun g' hg' => ho g' (hS g' hg')) (fun g' hg' => ho g' (h.new g' hg')), ⟨_, ⟨?_, .inr ⟨g, cap, _, rfl, hb, s2, h3, h4, by simp [h5], rfl⟩⟩, fun i hi => ?_⟩, fun g' hg' => h.new g' (by unfold qad at hg'; rw [x9 fun q hq => ho q (hS q hq)] at hg'; exact hg'), (ho k (by have := h.gk; omega)).trans h.mrk, h.gk, (h.but.setCell (.inr (.inr rfl)) _ _).setCell (.inr (.inr rfl)) _ _⟩
  ·rw [List.length_take]; simp; omega
  ·by_cases e : i = j
   ·subst e
    have a1 : i * 2 < cur.size := by omega
    have a2 : i * 2 + 1 < cur.size := by omega
    have b1 : i * 2 < m * 2 := by omega
    have b2 : i * 2 + 1 < m * 2 := by omega
    constructor
    ·rw [List.getElem?_take_of_lt b1, Array.getElem?_toList, xne (by omega), xsl a1]
    ·rw [List.getElem?_take_of_lt b2, Array.getElem?_toList, xsl (by simpa using a2)]
   ·obtain ⟨q1, q2⟩ := hmk i (by omega)
    rw [← h6] at q1 q2
    have b1 : i * 2 < m * 2 := by omega
    have b2 : i * 2 + 1 < m * 2 := by omega
    rw [List.getElem?_take_of_lt b1, Array.getElem?_toList] at q1
    rw [List.getElem?_take_of_lt b2, Array.getElem?_toList] at q2
    constructor
    ·rw [List.getElem?_take_of_lt b1, Array.getElem?_toList, xne (by omega), xne (by omega)]; exact q1
    ·rw [List.getElem?_take_of_lt b2, Array.getElem?_toList, xne (by omega), xne (by omega)]; exact q2
end
theorem Src.two (w : World) (a b c d : ByteArray) (ty : TypeId) : Src (w.alloc (.cells #[.string a, .string b, .string c, .string d] ty)) (some ⟨w.heap.size, 0, none⟩) 2 [.string a, .string b, .string c, .string d] := by
 refine ⟨rfl, fun ad e j u hj => ?_, fun h => (by cases h), fun u hu => by simp at hu; rcases hu with rfl | rfl | rfl | rfl <;> exact ⟨_, rfl⟩⟩
 cases e
 rw [Addr.add_lit, Nat.zero_add]
 match j, hj with
 |0, hj => simp at hj; subst hj; go_simp
 |1, hj => simp at hj; subst hj; go_simp
 |2, hj => simp at hj; subst hj; go_simp
 |3, hj => simp at hj; subst hj; go_simp
theorem qo1 : ∃ i, Tryz.prog.info? 47 = some i ∧ i.zero = some (.slice none 0 0) ∧ i.size = 1 ∧ i.bytes = 24 := by
 have h : (Tryz.prog.info? 47).map (fun i => (i.zero, i.size, i.bytes)) = some (some (.slice none 0 0), 1, 24) := by kernel_rfl
 obtain ⟨i, h1, h2⟩ := Option.map_eq_some_iff.1 h
 injection h2 with h2 h3
 injection h3 with h3 h4
 exact ⟨i, h1, h2, h3, h4⟩
theorem cell1 (w : World) (a : Value) (ty : TypeId) : ∀ (j : Nat) (u : Value), [a][j]? = some u → (w.alloc (.cells #[a] ty)).cell? ((⟨w.heap.size, 0, none⟩ : Addr).add j) = some u := fun j u hj => by
 rw [Addr.add_lit, Nat.zero_add]
 match j, hj with
 |0, hj => simp at hj; subst hj; go_simp
theorem xq {w : World} {base n size : Nat} {ty : TypeId} {v : Value} {xs : List Value} (h : w.ownsRow base ty size v n xs) : ∃ sa cp, v = .slice sa n cp := by
 rcases h.2 with ⟨rfl, hz⟩ | ⟨g, cap, cur, rfl, _⟩
 ·exact ⟨none, 0, by rw [hz]⟩
 ·exact ⟨_, _, rfl⟩
theorem qbw.grow {w w3 : World} {W n : Nat} {S v3 l l' : Value} {o : Obj} {xs : List Value} (h : qbw n0 w W CS S n) (hg : (w.alloc o).grownBy w3 S.ownBlock) (hr : w3.ownsRow n0 47 1 v3 (n + 1) (xs ++ [l'])) (hx : w.ownsRow n0 47 1 S n xs) (hla : qbu w n l') (hout : ∀ g, l'.ownBlock = some g → ¬ CS.out g) :
  w3.cell? ⟨W, 2, none⟩ = some S ∧ w3.frozen? ⟨W, 2, none⟩ = false ∧ qbw n0 (w3.setCell ⟨W, 2, none⟩ v3) W CS v3 (n + 1) ∧ But (qgt W S l) w (w3.setCell ⟨W, 2, none⟩ v3) := by
 obtain ⟨cur, h1, h2, h2b⟩ := h.b
 obtain ⟨zs, h3⟩ := h.row
 have hlt := h.cell.2.2
 have hne : some W ≠ S.ownBlock := fun e => by
  obtain ⟨c, hc⟩ := jq h3 e.symm
  rw [h1] at hc; cases hc
 have hb3 : w3.heap[W]? = some (.cells cur 36 (0, 0)) := (hg.block W (by simp; omega) hne).trans ((heap_alloc_old w o hlt).trans h1)
 have hrow : (w3.setCell ⟨W, 2, none⟩ v3).ownsRow n0 47 1 v3 (n + 1) (xs ++ [l']) := qj hr fun g hgg => xho _ _ _ _ fun e => by
  obtain ⟨c, hc⟩ := jq hr hgg
  rw [show g = W from e, hb3] at hc; cases hc
 have stay : ∀ (b : Nat) (cur : Array Value), w.heap[b]? = some (Obj.cells cur 74 (0, 0)) → (w3.setCell ⟨W, 2, none⟩ v3).heap[b]? = w.heap[b]? := fun b cur hbb => by
  have hl := (zx hbb).1
  rw [xho _ _ _ _ fun e => by rw [show b = W from e, h1] at hbb; cases hbb]
  refine (hg.block b (by simp; omega) fun e => ?_).trans (heap_alloc_old w o hl)
  obtain ⟨c, hc⟩ := jq h3 e.symm
  rw [hbb] at hc; cases hc
 have q34 : ∀ k q, qbu w k q → qbu (w3.setCell ⟨W, 2, none⟩ v3) k q := fun k q ⟨m, ys, a1, a2⟩ => ⟨m, ys, qj a1 fun g hgg => by
  obtain ⟨c, hc⟩ := jq a1 hgg
  exact stay g c hc, a2⟩
 refine ⟨by simp [World.cell?, hb3, h2], by simp [World.frozen?, hb3], ⟨⟨_, xhs w3 W 2 cur _ _ hb3, by rw [xsl ((zx h2).1)], by rw [xne (by omega), h2b.1], by rw [xne (by omega), h2b.2.1], by rw [xne (by omega), h2b.2.2]⟩, ⟨_, hrow⟩, fun k q hk => ?_, fun g ⟨q, hq, e⟩ => ?_⟩, But.setCell (B := qgt W S l) ⟨by have := hg.size; simp at this; omega, fun b hb hn => ?_, (by rw [hg.os]; rfl), (by rw [hg.output]; rfl)⟩ (.inl rfl) _ _⟩
 ·rw [qaa hrow] at hk
  have hxl : xs.length = n := by have := hx.1; omega
  rcases Nat.lt_or_ge k n with hkn | hkn
  ·rw [List.getElem?_append_left (by omega)] at hk
   exact q34 k q (h.kept k q (by rw [qaa hx]; exact hk))
  ·rw [List.getElem?_append_right (by omega)] at hk
   have hk0 : k - xs.length = 0 := by
    have := (List.getElem?_eq_some_iff.1 hk).1
    simp at this; omega
   rw [hk0] at hk
   cases hk
   obtain rfl : k = n := by omega
   exact q34 k _ hla
 ·rw [qaa hrow] at hq
  rcases List.mem_append.1 hq with hq | hq
  ·exact h.out g ⟨q, by rw [qaa hx]; exact hq, e⟩
  ·rw [List.mem_singleton] at hq
   subst hq
   exact hout g e
 ·exact (hg.block b (by simp; omega) fun e => hn (.inr (.inl e.symm))).trans (heap_alloc_old w o hb)
theorem at_new {v3 v0 : Value} {z y : Nat} (h : v3.ownBlock = v0.ownBlock ∨ v3.ownBlock = some z) (hz : y ≤ z) : ∀ q, v3.ownBlock = some q → v0.ownBlock = some q ∨ y ≤ q := fun q e => by
 rcases h with h | h
 ·left; rw [← h]; exact e
 ·right; rw [h] at e; cases e; exact hz
theorem qbw.app {w w2 : World} {W n : Nat} {S l : Value} {o : Obj} {m base : Nat} {xs : List Value} (h : qbw n0 w W CS S n) (hl : (w.alloc o).ownsRow base 74 2 l m xs) (hg : (w.alloc o).grownBy w2 l.ownBlock) (hnew : ∀ g, qad w S g → l.ownBlock ≠ some g) : qbw n0 w2 W CS S n ∧ But (qgt W S l) w w2 := by
 obtain ⟨cur, h1, h2, h2b⟩ := h.b
 obtain ⟨zs, h3⟩ := h.row
 have key : ∀ (b : Nat) (c : Array Value) (ty : TypeId), w.heap[b]? = some (Obj.cells c ty (0, 0)) → ty ≠ 74 → w2.heap[b]? = w.heap[b]? := fun b c ty hb hne => by
  have hlt := (zx hb).1
  refine (hg.block b (by simp; omega) fun e => ?_).trans (heap_alloc_old w o hlt)
  obtain ⟨c', hc⟩ := jq hl e.symm
  rw [heap_alloc_old w o hlt, hb] at hc
  have e2 : Obj.cells c ty (0, 0) = Obj.cells c' 74 (0, 0) := xoi hc
  injection e2 with _ e3
  exact hne e3
 refine ⟨h.block (key W _ _ h1 (by decide)) (fun g hgg => ?_) (fun g hgg => ?_), ⟨by have := hg.size; simp at this; omega, fun b hb hn => (hg.block b (by simp; omega) fun e => hn (.inr (.inr e.symm))).trans (heap_alloc_old w o hb), (by rw [hg.os]; rfl), (by rw [hg.output]; rfl)⟩⟩
 ·obtain ⟨c, hc⟩ := jq h3 hgg
  exact key g _ _ hc (by decide)
 ·obtain ⟨c, hc⟩ := h.qi0 hgg
  have hl := (zx hc).1
  exact (hg.block g (by simp; omega) fun e => hnew g hgg e.symm).trans (heap_alloc_old w o hl)
theorem qbu.two {w w2 : World} {base m k : Nat} {v : Value} {zs : List Value} {a b : ByteArray} (h : w2.ownsRow base 74 2 v (m + 2) (zs ++ [.string a, .string b, .string a, .string b])) (hz : zs.length = m * 2) (hm : ∀ i, i < m → zs[i * 2]? = some (.string a) ∧ zs[i * 2 + 1]? = some (.string b)) (ha : a = mnK ∧ b = mnV k) : qbu w2 k v := by
 obtain ⟨rfl, rfl⟩ := ha
 refine ⟨m + 2, _, ⟨h.1, h.2.imp id fun ⟨g, cap, cur, e, _, r⟩ => ⟨g, cap, cur, e, xzl _, r⟩⟩, fun i hi => ?_⟩
 by_cases hi2 : i < m
 ·rw [List.getElem?_append_left (by omega), List.getElem?_append_left (by omega)]
  exact hm i hi2
 ·rw [List.getElem?_append_right (by omega), List.getElem?_append_right (by omega), hz]
  have : i = m ∨ i = m + 1 := by omega
  rcases this with rfl | rfl
  ·rw [show i * 2 - i * 2 = 0 by omega, show i * 2 + 1 - i * 2 = 1 by omega]; exact ⟨rfl, rfl⟩
  ·rw [show (m + 1) * 2 - m * 2 = 2 by omega, show (m + 1) * 2 + 1 - m * 2 = 3 by omega]; exact ⟨rfl, rfl⟩
theorem qt4 {W n m base g cap : Nat} {S : Value} {xs : List Value} (h : qbw n0 w W CS S n) (hn : n ≤ 4398046511103) (hl : w.ownsRow base 74 2 (.slice (some ⟨g, 0, none⟩) m cap) m xs) (hm : m ≤ 1073741820) (hlo : n0 ≤ w.heap.size) (hnew : ∀ g', qad w S g' → g' ≠ g) (hO : ∀ g', CS.out g' → g' < base) :
  Calls Tryz.prog 30 #[.pointer (some ⟨W, 0, none⟩), .slice (some ⟨g, 0, none⟩) m cap] w fun e w' => (e = .returned (.tuple #[])) ∧ (∃ S', qbw n0 w' W CS S' (n + 1) ∧ ∀ q, S'.ownBlock = some q → S.ownBlock = some q ∨ w.heap.size ≤ q) ∧ But (qgt W S (.slice (some ⟨g, 0, none⟩) m cap)) w w' := by
 obtain ⟨c1, c2, c3⟩ := h.cell
 obtain ⟨S1, S2, hS⟩ : ∃ sa cp, S = .slice sa n cp := by
  obtain ⟨xs, h⟩ := h.row
  rcases h.2 with ⟨rfl, hz⟩ | ⟨g, cap, cur, rfl, _⟩
  ·exact ⟨none, 0, by rw [hz]⟩
  ·exact ⟨_, _, rfl⟩
 subst hS
 have HL := Lib.hid h
 have HR := Lib.hid hl
 have HLO := Lib.hid hlo
 have HNW := Lib.hid hnew
 have HO := Lib.hid hO
 clear h hl hlo hnew hO
 go_enter Tryz.func30, Tryz.ntmps30
 go_wp2_with (go_at_call 38; refine (qq2 n (by omega)).mono ?_; rintro e w1 ⟨⟨ma, mb, hmm, rfl⟩, hb1⟩; have HB1 := Lib.hid hb1; have HMM := Lib.hid hmm; clear hb1 hmm)
 go_loopw [15] (fun x wr => ∃ j : Nat, j ≤ m ∧ x = .int .i64 j ∧ Hid (MnW n0 CS w W n m base g cap w1.heap.size (.slice S1 n S2) ma mb j wr)) (fun x _ => m - (intOf x).toNat)
 case atStart =>
  have hb := HB1.out.alloc HB1.out.size (.cells #[.string ma, .string mb] 74)
  have hg : g < w.heap.size := (HR.out.lt g rfl).2
  have hSb : ∀ g', Value.ownBlock (.slice S1 n S2) = some g' → _ := fun g' hg' => hb.block g' (let ⟨_, hz⟩ := HL.out.row; (hz.lt g' hg').2)
  refine ⟨0, xzl _, rfl, Lib.hid ⟨HL.out.block (hb.block W c3) hSb (fun g' hg' => hb.block g' (let ⟨_, hz⟩ := HL.out.qi0 hg'; (zx hz).1)), ⟨xs, qj HR.out fun g' hg' => by cases hg'; exact hb.block g hg, fun i hi => absurd hi (Nat.not_lt_zero i)⟩, fun g' hg' => HNW.out g' (by unfold qad at hg'; rw [x9 hSb] at hg'; exact hg'), heap_alloc_new _ _, xll hg HB1.out.size, .of_below hb⟩⟩
 case round =>
  obtain ⟨j, hj, rfl, HM⟩ := hrel
  by_cases hjl : j < m
  ·obtain ⟨⟨v0, d0⟩, ⟨v1, d1⟩, f0, f1, k0, k1⟩ := MnW.cells j HM.out hjl
   have HN := Lib.hid (MnW.stored j HM.out hjl)
   go_wp2
   go_roundw
   case rel => exact ⟨j + 1, by omega, rfl, HN⟩
   case measure => simp [intOf]; omega
  ·obtain rfl : j = m := by omega
   have k0 : wr.cell? ⟨w1.heap.size, 0, none⟩ = some (.string ma) := by simp [World.cell?, HM.out.mrk]
   have k1 : wr.cell? ⟨w1.heap.size, 1, none⟩ = some (.string mb) := by simp [World.cell?, HM.out.mrk]
   obtain ⟨zs, hz, hzm⟩ := HM.out.row
   have HZM := Lib.hid hzm
   clear hzm
   obtain ⟨ys, hy⟩ := HM.out.ls.row
   have HSZ := Lib.hid HM.out.but.size
   have HZ := Lib.hid hz
   have HY := Lib.hid hy
   clear hz hy
   obtain ⟨li, l1, l2, l3, l4⟩ := qo1
   have HI := Lib.hid (And.intro l1 (And.intro l2 (And.intro l3 l4)))
   clear l1 l2 l3 l4
   obtain ⟨pi, l1, l2, l3, l4⟩ := qmb
   have HP := Lib.hid (And.intro l1 (And.intro l2 (And.intro l3 l4)))
   clear l1 l2 l3 l4
   go_wp2_with (first
    |(at_builtin; (refine wpList_append_own _ rfl (.tmp 23) (.tmp 26) 47 rfl base 74 pi _ 2 32 Tryz.underlying47 HP.out.1 HP.out.2.1 HP.out.2.2.1 HP.out.2.2.2 rfl (by decide) (.slice (some ⟨g, 0, none⟩) j cap) j zs rfl (HZ.out.alloc _) ⟨wr.heap.size, 0, none⟩ 2 2 [.string ma, .string mb, .string ma, .string mb] rfl rfl ((Src.two wr ma mb ma mb _).cell _ rfl) (by intro u hu; simp at hu; rcases hu with rfl | rfl | rfl | rfl <;> rfl) (by unfold maxLen; omega) (by omega) (by have := (HZ.out.lt g rfl).1; have := (HZ.out.lt g rfl).2; simp; omega) ?_; intro v2 w2 hrow2 hg2 _; obtain ⟨sa2, cp2, hv2⟩ := xq hrow2; have H2 := Lib.hid (HM.out.ls.app (HZ.out.alloc _) hg2 (fun g' hg' e => HM.out.new g' hg' (by cases e; rfl))); have HA2 := Lib.hid (qbu.two (w := w2) hrow2 HZ.out.1 HZM.out HMM.out); have HO2 := Lib.hid (fun (g' : Nat) (hg' : v2.ownBlock = some g') (ho : CS.out g') => (Nat.not_lt.2 (World.ownsRow.lt hrow2 g' hg').1) (HO.out g' ho)); obtain ⟨d2, e2, _⟩ := H2.out.1.cell; rw [hv2] at HA2 HO2; rw [hv2]; clear hrow2 hg2 hv2))
    |(at_builtin; (obtain ⟨qs, hq⟩ := H2.out.1.row; refine wpList_append_own_at _ rfl (.tmp 31) (.tmp 33) 34 rfl n0 47 li _ 1 24 Tryz.underlying34 HI.out.1 HI.out.2.1 HI.out.2.2.1 HI.out.2.2.2 rfl (by decide) (.slice S1 n S2) n qs rfl (hq.alloc _) ⟨w2.heap.size, 0, none⟩ 1 1 [.slice sa2 (j + 2) cp2] rfl rfl (cell1 w2 _ _) (by intro u hu; simp at hu; subst hu; rfl) (by unfold maxLen; omega) (by omega) (by have a0 := HLO.out; have a1 := HSZ.out; have a2 := H2.out.2.size; simp; omega) ?_; intro v3 w3 hrow3 hg3 _ qop; have HT3 : Hid (∀ q, v3.ownBlock = some q → Value.ownBlock (.slice S1 n S2) = some q ∨ w.heap.size ≤ q) := Lib.hid (at_new qop (by have a1 := HSZ.out; have a2 := H2.out.2.size; simp; omega)); obtain ⟨sa3, cp3, hv3⟩ := xq hrow3; have H3 := Lib.hid (H2.out.1.grow (l := .slice (some ⟨g, 0, none⟩) j cap) hg3 hrow3 hq HA2.out HO2.out); rw [hv3] at H3 HT3; obtain ⟨d3, e3, _⟩ := H3.out; rw [hv3]; clear hrow3 hg3 hv3 hq qop)))
   go_end0
   exact ⟨rfl, ⟨_, H3.out.2.2.1, HT3.out⟩, (HM.out.but.trans H2.out.2).trans H3.out.2.2.2⟩
theorem qxy {W n : Nat} {S : Value} (h : qbw n0 w W CS S n) (hn : n ≤ 4398046511103) (hlo : n0 ≤ w.heap.size) (hO : ∀ g', CS.out g' → g' < w.heap.size) :
  Calls Tryz.prog 30 #[.pointer (some ⟨W, 0, none⟩), .slice none 0 0] w fun e w' => (e = .returned (.tuple #[])) ∧ (∃ S', qbw n0 w' W CS S' (n + 1) ∧ ∀ q, S'.ownBlock = some q → S.ownBlock = some q ∨ w.heap.size ≤ q) ∧ But (qgt W S (.slice none 0 0)) w w' := by
 obtain ⟨c1, c2, c3⟩ := h.cell
 obtain ⟨S1, S2, hS⟩ : ∃ sa cp, S = .slice sa n cp := by
  obtain ⟨xs, h⟩ := h.row
  exact xq h
 subst hS
 have HL := Lib.hid h
 have HLO := Lib.hid hlo
 have HO := Lib.hid hO
 clear h hlo hO
 obtain ⟨li, l1, l2, l3, l4⟩ := qo1
 have HI := Lib.hid (And.intro l1 (And.intro l2 (And.intro l3 l4)))
 clear l1 l2 l3 l4
 go_enter Tryz.func30, Tryz.ntmps30
 go_wp2_with (go_at_call 38; refine (qq2 n (by omega)).mono ?_; rintro e w1 ⟨⟨ma, mb, hmm, rfl⟩, hb1⟩; have HB1 := Lib.hid hb1; have HMM := Lib.hid hmm; clear hb1 hmm)
 refine wp_loop_rounds 1 ?_
 rw [rounds_succ]
 have hb := HB1.out.alloc HB1.out.size (.cells #[.string ma, .string mb] 74)
 have HL1 : Hid (qbw n0 (w1.alloc (.cells #[.string ma, .string mb] 74)) W CS (.slice S1 n S2) n) := Lib.hid (HL.out.block (hb.block W c3) (fun g' hg' => hb.block g' (let ⟨_, hz⟩ := HL.out.row; (hz.lt g' hg').2)) (fun g' hg' => hb.block g' (let ⟨_, hz⟩ := HL.out.qi0 hg'; (zx hz).1)))
 have HSZ := Lib.hid hb.size
 have HB2 := Lib.hid (But.of_below (B := qgt W (.slice S1 n S2) (.slice none 0 0)) hb)
 clear hb
 have k0 : (w1.alloc (.cells #[.string ma, .string mb] 74)).cell? ⟨w1.heap.size, 0, none⟩ = some (.string ma) := by go_simp
 have k1 : (w1.alloc (.cells #[.string ma, .string mb] 74)).cell? ⟨w1.heap.size, 1, none⟩ = some (.string mb) := by go_simp
 generalize w1.alloc (.cells #[.string ma, .string mb] 74) = wr at *
 go_wp2_with (first
  |(at_builtin; refine j6 (v := .slice none 0 0) (base := w.heap.size) rfl (.tmp 23) (.tmp 26) rfl rfl rfl (World.ownsRow_nil _ _ _ _) (qcf.nil _) (Src.two _ ma mb ma mb _) (by omega) (by have a1 := HSZ.out; simp; omega) ?_; intro v2 w2 hrow2 qj0 hg2; obtain ⟨sa2, cp2, hv2⟩ := xq hrow2; have H2 := Lib.hid (HL1.out.app (World.ownsRow_nil _ 0 _ _) hg2 (fun g' _ e => by cases e)); have HA2 := Lib.hid (qbu.two (w := w2) (m := 0) (zs := []) hrow2 rfl (fun i hi => absurd hi (Nat.not_lt_zero i)) HMM.out); have HO2 := Lib.hid (fun (g' : Nat) (hg' : v2.ownBlock = some g') (ho : CS.out g') => (Nat.not_lt.2 (World.ownsRow.lt hrow2 g' hg').1) (HO.out g' ho)); obtain ⟨d2, e2, _⟩ := H2.out.1.cell; rw [Nat.zero_add] at hv2; rw [hv2] at HA2 HO2; rw [hv2]; clear hrow2 qj0 hg2 hv2)
  |(at_builtin; (obtain ⟨qs, hq⟩ := H2.out.1.row; refine wpList_append_own_at _ rfl (.tmp 31) (.tmp 33) 34 rfl n0 47 li _ 1 24 Tryz.underlying34 HI.out.1 HI.out.2.1 HI.out.2.2.1 HI.out.2.2.2 rfl (by decide) (.slice S1 n S2) n qs rfl (hq.alloc _) ⟨w2.heap.size, 0, none⟩ 1 1 [.slice sa2 2 cp2] rfl rfl (cell1 w2 _ _) (by intro u hu; simp at hu; subst hu; rfl) (by unfold maxLen; omega) (by omega) (by have a0 := HLO.out; have a1 := HSZ.out; have a2 := H2.out.2.size; simp; omega) ?_; intro v3 w3 hrow3 hg3 _ qop; have HT3 : Hid (∀ q, v3.ownBlock = some q → Value.ownBlock (.slice S1 n S2) = some q ∨ w.heap.size ≤ q) := Lib.hid (at_new qop (by have a1 := HSZ.out; have a2 := H2.out.2.size; simp; omega)); obtain ⟨sa3, cp3, hv3⟩ := xq hrow3; have H3 := Lib.hid (H2.out.1.grow (l := .slice none 0 0) hg3 hrow3 hq HA2.out HO2.out); rw [hv3] at H3 HT3; obtain ⟨d3, e3, _⟩ := H3.out; rw [hv3]; clear hrow3 hg3 hv3 hq qop)))
 go_end0
 exact ⟨rfl, ⟨_, H3.out.2.2.1, HT3.out⟩, (HB2.out.trans H2.out.2).trans H3.out.2.2.2⟩
end
structure Chg where
 k : Bs
 v : Bs
 g : Bool
structure Mv where
 id : Nat
 fr : Nat
 to : Nat
 ps : KV
 cs : List Chg
 sent : Bs
 n : Nat
 kind : Nat
 parts : Nat
 sealed : Bool
structure Stg where
 host : Nat
 sh : Nat
 id : Nat
 next : Nat
 kv : KV
 done : Bool
structure St where
 hosts : Nat
 ow : Nat → Nat
 kv : Nat → KV
 mv : Nat → Option Mv
 stg : List Stg
 id : Nat
 ep : Nat
def qer (l : List Chg) : List Value := l.flatMap fun c => [sv c.k, sv c.v, .bool c.g]
structure PA where
 cl : Nat
 db : Nat → Nat
 mb : Nat → Nat
 mp : Nat → Option Nat
 pv : Nat → Value
 cv : Nat → Value
 ld : Nat → ByteArray
 sm : Nat
def ptr : Option Nat → Value
 |none => .pointer none
 |some g => .pointer (some ⟨g, 0, none⟩)
def zy (A : PA) (s : St) : Array Value :=
 #[.int .i64 s.hosts, .int .i64 (s.ow 0), ptr (some (A.db 0)), ptr (A.mp 0), .int .i64 (s.ow 1), ptr (some (A.db 1)), ptr (A.mp 1), .int .i64 (s.ow 2), ptr (some (A.db 2)), ptr (A.mp 2), .int .i64 (s.ow 3), ptr (some (A.db 3)), ptr (A.mp 3), .map (some A.sm), .int .i64 s.id, .int .i64 s.ep]
def j3 (k : Nat) (pv cv : Value) (ld : ByteArray) (m : Mv) : Array Value :=
 #[.int .i64 m.id, .int .i64 m.fr, .int .i64 m.to, pv, cv, .int .u8 m.kind, .int .i64 k, .int .i64 m.id, .int .i64 m.n, .string ld, sv m.sent, .int .i64 m.parts, .bool m.sealed]
def qvk (w : World) (v : Value) (l : KV) : Prop := w.ownsRow 0 74 2 v l.length (flat l)
def qjd (w : World) (v : Value) (l : List Chg) : Prop := w.ownsRow 0 87 3 v l.length (qer l)
def qcl (w : World) (F : Nat → Prop) (A : PA) (i : Nat) : Option Mv → Prop
 |none => A.mp i = none ∧ (A.cv i).ownBlock = none
 |some m => ∃ g, A.mp i = some g ∧ F g ∧ w.heap[g]? = some (.cells (j3 i (A.pv i) (A.cv i) (A.ld i) m) 135 (0, 0)) ∧ qvk w (A.pv i) m.ps ∧ qjd w (A.cv i) m.cs ∧ (∀ b, (A.pv i).ownBlock = some b → F b) ∧ ∀ b, (A.cv i).ownBlock = some b → F b
def q8q (w : World) (F : Nat → Prop) (sm : Nat) (l : List Stg) : Prop := l = [] ∧ F sm ∧ w.heap[sm]? = some (.map #[] 0)
structure PAt (w : World) (F : Nat → Prop) (A : PA) (s : St) : Prop where
 cl : F A.cl ∧ w.heap[A.cl]? = some (.cells (zy A s) 83 (0, 0))
 db : ∀ i, i < 4 → F (A.db i) ∧ w.heap[A.db i]? = some (.cells #[.map (some (A.mb i))] 142 (0, 0))
 mb : ∀ i, i < 4 → F (A.mb i) ∧ j4 w (A.mb i) (s.kv i)
 mbi : ∀ i j, i < 4 → j < 4 → A.mb i = A.mb j → i = j
 mv : ∀ i, i < 4 → qcl w F A i (s.mv i)
 mpi : ∀ i j g, i < 4 → j < 4 → A.mp i = some g → A.mp j = some g → i = j
 cvi : ∀ i j g, i < 4 → j < 4 → (A.cv i).ownBlock = some g → (A.cv j).ownBlock = some g → i = j
 stg : q8q w F A.sm s.stg
 smb : ∀ i, i < 4 → A.mb i ≠ A.sm
section
variable {w w' : World} {F F' : Nat → Prop} {A : PA} {s : St}
theorem qvk.block {v : Value} {l : KV} (h : qvk w v l) (k : ∀ g, v.ownBlock = some g → w'.heap[g]? = w.heap[g]?) : qvk w' v l := qj h k
theorem qjd.block {v : Value} {l : List Chg} (h : qjd w v l) (k : ∀ g, v.ownBlock = some g → w'.heap[g]? = w.heap[g]?) : qjd w' v l := qj h k
theorem qcl.frame {i : Nat} {m : Option Mv} (h : qcl w F A i m) (k : ∀ b, F b → w'.heap[b]? = w.heap[b]?) : qcl w' F A i m := by
 cases m with
 |none => exact h
 |some m =>
  obtain ⟨g, h1, h2, h3, h4, h5, h6, h7⟩ := h
  exact ⟨g, h1, h2, (k g h2).trans h3, h4.block fun b hb => k b (h6 b hb), h5.block fun b hb => k b (h7 b hb), h6, h7⟩
theorem qcl.mono {i : Nat} {m : Option Mv} (h : qcl w F A i m) (k : ∀ b, F b → F' b) : qcl w F' A i m := by
 cases m with
 |none => exact h
 |some m =>
  obtain ⟨g, h1, h2, h3, h4, h5, h6, h7⟩ := h
  exact ⟨g, h1, k _ h2, h3, h4, h5, fun b hb => k b (h6 b hb), fun b hb => k b (h7 b hb)⟩
theorem PAt.frame (h : PAt w F A s) (k : ∀ b, F b → w'.heap[b]? = w.heap[b]?) : PAt w' F A s :=
 ⟨⟨h.cl.1, (k _ h.cl.1).trans h.cl.2⟩, fun i hi => ⟨(h.db i hi).1, (k _ (h.db i hi).1).trans (h.db i hi).2⟩, fun i hi => ⟨(h.mb i hi).1, (h.mb i hi).2.block (k _ (h.mb i hi).1)⟩, h.mbi, fun i hi => (h.mv i hi).frame k, h.mpi, h.cvi, ⟨h.stg.1, h.stg.2.1, (k _ h.stg.2.1).trans h.stg.2.2⟩, h.smb⟩
theorem PAt.mono (h : PAt w F A s) (k : ∀ b, F b → F' b) : PAt w F' A s :=
 ⟨⟨k _ h.cl.1, h.cl.2⟩, fun i hi => ⟨k _ (h.db i hi).1, (h.db i hi).2⟩, fun i hi => ⟨k _ (h.mb i hi).1, (h.mb i hi).2⟩, h.mbi, fun i hi => (h.mv i hi).mono k, h.mpi, h.cvi, ⟨h.stg.1, k _ h.stg.2.1, h.stg.2.2⟩, h.smb⟩
theorem PAt.clt (h : PAt w F A s) : A.cl < w.heap.size := (zx h.cl.2).1
theorem qcl.lt {i : Nat} {m : Option Mv} (h : qcl w F A i m) : qcl w (fun b => F b ∧ b < w.heap.size) A i m := by
 cases m with
 |none => exact h
 |some m =>
  obtain ⟨g, h1, h2, h3, h4, h5, h6, h7⟩ := h
  exact ⟨g, h1, ⟨h2, (zx h3).1⟩, h3, h4, h5, fun b hb => ⟨h6 b hb, (World.ownsRow.lt h4 b hb).2⟩, fun b hb => ⟨h7 b hb, (World.ownsRow.lt h5 b hb).2⟩⟩
theorem PAt.lts (h : PAt w F A s) : PAt w (fun b => F b ∧ b < w.heap.size) A s :=
 ⟨⟨⟨h.cl.1, h.clt⟩, h.cl.2⟩, fun i hi => ⟨⟨(h.db i hi).1, (zx (h.db i hi).2).1⟩, (h.db i hi).2⟩, fun i hi => ⟨⟨(h.mb i hi).1, (h.mb i hi).2.lt⟩, (h.mb i hi).2⟩, h.mbi, fun i hi => (h.mv i hi).lt, h.mpi, h.cvi, ⟨h.stg.1, ⟨h.stg.2.1, (zx h.stg.2.2).1⟩, h.stg.2.2⟩, h.smb⟩
theorem PAt.below (h : PAt w F A s) (hb : Below w.heap.size w w') : PAt w' F A s := (h.lts.frame fun b hb' => hb.block b hb'.2).mono fun _ h => h.1
theorem PAt.cells (h : PAt w F A s) (j : Nat) (v : Value) (hj : (zy A s)[j]? = some v) : w.cell? ⟨A.cl, j, none⟩ = some v ∧ w.frozen? ⟨A.cl, j, none⟩ = false := ⟨by simp [World.cell?, h.cl.2, hj], by simp [World.frozen?, h.cl.2]⟩
theorem qb1 (A : PA) (s : St) (i : Nat) (hi : i < 4) : (zy A s)[1 + i * 3]? = some (.int .i64 (s.ow i)) ∧ (zy A s)[1 + i * 3 + 1]? = some (ptr (some (A.db i))) ∧ (zy A s)[1 + i * 3 + 2]? = some (ptr (A.mp i)) := by
 match i, hi with
 |0, _ | 1, _ | 2, _ | 3, _ => exact ⟨rfl, rfl, rfl⟩
def mpA : Option Nat → Option Addr
 |none => none
 |some g => some ⟨g, 0, none⟩
theorem qkg (o : Option Nat) : ptr o = .pointer (mpA o) := by cases o <;> rfl
theorem PAt.part (h : PAt w F A s) (i : Nat) (hi : i < 4) : qbj w A.cl i (A.db i) (A.mb i) (mpA (A.mp i)) (s.kv i) := by
 obtain ⟨_, h2, h3⟩ := qb1 A s i hi
 exact ⟨(h.cells _ _ h2).1, by rw [← qkg]; exact (h.cells _ _ h3).1, by simp [World.cell?, (h.db i hi).2], (h.mb i hi).2⟩
end
structure MA where
 ml : Nat
 sb : Nat
 lv : Nat → Value
 mp : Nat → Option Nat
 pv : Nat → Value
 cv : Nat → Value
 sg : Value
 cap : Nat
def qen (B : MA) (s : St) : Array Value := #[.int .i64 s.hosts, .slice (some ⟨B.sb, 0, none⟩) 4 B.cap, B.sg, .int .i64 s.id, .int .i64 s.ep]
def j5 (pv cv : Value) (m : Mv) : Array Value := #[.int .i64 m.id, .int .i64 m.fr, .int .i64 m.to, pv, cv, sv m.sent, .int .i64 m.n, .int .i64 m.kind, .int .i64 m.parts, .bool m.sealed]
def qmo (w : World) (v : Value) (l : List Chg) : Prop := w.ownsRow 0 60 3 v l.length (qer l)
def qao (w : World) (F : Nat → Prop) (B : MA) (i : Nat) : Option Mv → Prop
 |none => B.mp i = none ∧ (B.cv i).ownBlock = none
 |some m => ∃ g, B.mp i = some g ∧ F g ∧ w.heap[g]? = some (.cells (j5 (B.pv i) (B.cv i) m) 110 (0, 0)) ∧ qvk w (B.pv i) m.ps ∧ qmo w (B.cv i) m.cs ∧ (∀ b, (B.pv i).ownBlock = some b → F b) ∧ ∀ b, (B.cv i).ownBlock = some b → F b
def q4p (_w : World) (_F : Nat → Prop) (sg : Value) (l : List Stg) : Prop := l = [] ∧ sg = .slice none 0 0
structure MAt (w : World) (F : Nat → Prop) (B : MA) (s : St) : Prop where
 ml : F B.ml ∧ w.heap[B.ml]? = some (.cells (qen B s) 101 (0, 0))
 sb : F B.sb ∧ ∃ cur, w.heap[B.sb]? = some (.cells cur 104 (0, 0)) ∧ ∀ i, i < 4 → cur[i * 3]? = some (.int .i64 (s.ow i)) ∧ cur[i * 3 + 1]? = some (B.lv i) ∧ cur[i * 3 + 2]? = some (.pointer (mpA (B.mp i)))
 r : ∀ i, i < 4 → yh w 0 (B.lv i) (s.kv i) ∧ ∀ b, (B.lv i).ownBlock = some b → F b
 mv : ∀ i, i < 4 → qao w F B i (s.mv i)
 mpi : ∀ i j g, i < 4 → j < 4 → B.mp i = some g → B.mp j = some g → i = j
 cvi : ∀ i j g, i < 4 → j < 4 → (B.cv i).ownBlock = some g → (B.cv j).ownBlock = some g → i = j
 stg : q4p w F B.sg s.stg
section
variable {w w' : World} {F F' : Nat → Prop} {B : MA} {s : St} {n : Nat}
theorem qmo.block {v : Value} {l : List Chg} (h : qmo w v l) (k : ∀ g, v.ownBlock = some g → w'.heap[g]? = w.heap[g]?) : qmo w' v l := qj h k
theorem qao.frame {i : Nat} {m : Option Mv} (h : qao w F B i m) (k : ∀ b, F b → w'.heap[b]? = w.heap[b]?) : qao w' F B i m := by
 cases m with
 |none => exact h
 |some m =>
  obtain ⟨g, h1, h2, h3, h4, h5, h6, h7⟩ := h
  exact ⟨g, h1, h2, (k g h2).trans h3, h4.block fun b hb => k b (h6 b hb), h5.block fun b hb => k b (h7 b hb), h6, h7⟩
theorem qao.mono {i : Nat} {m : Option Mv} (h : qao w F B i m) (k : ∀ b, F b → F' b) : qao w F' B i m := by
 cases m with
 |none => exact h
 |some m =>
  obtain ⟨g, h1, h2, h3, h4, h5, h6, h7⟩ := h
  exact ⟨g, h1, k _ h2, h3, h4, h5, fun b hb => k b (h6 b hb), fun b hb => k b (h7 b hb)⟩
theorem qao.lt {i : Nat} {m : Option Mv} (h : qao w F B i m) : qao w (fun b => F b ∧ b < w.heap.size) B i m := by
 cases m with
 |none => exact h
 |some m =>
  obtain ⟨g, h1, h2, h3, h4, h5, h6, h7⟩ := h
  exact ⟨g, h1, ⟨h2, (zx h3).1⟩, h3, h4, h5, fun b hb => ⟨h6 b hb, (World.ownsRow.lt h4 b hb).2⟩, fun b hb => ⟨h7 b hb, (World.ownsRow.lt h5 b hb).2⟩⟩
theorem qao.same {C : MA} {i : Nat} {m : Option Mv} (h : qao w F B i m) (e1 : C.mp i = B.mp i) (e2 : C.pv i = B.pv i) (e3 : C.cv i = B.cv i) : qao w F C i m := by
 cases m with
 |none => exact ⟨e1.trans h.1, by rw [e3]; exact h.2⟩
 |some m =>
  obtain ⟨g, h1, h2, h3, h4, h5, h6, h7⟩ := h
  exact ⟨g, e1.trans h1, h2, by rw [e2, e3]; exact h3, by rw [e2]; exact h4, by rw [e3]; exact h5, by rw [e2]; exact h6, by rw [e3]; exact h7⟩
theorem qao.keep {i : Nat} {m : Option Mv} (h : qao w F B i m) (k1 : ∀ b cur, B.mp i = some b → w.heap[b]? = some (Obj.cells cur 110 (0, 0)) → w'.heap[b]? = w.heap[b]?) (k2 : ∀ b cur, (B.pv i).ownBlock = some b → w.heap[b]? = some (Obj.cells cur 74 (0, 0)) → w'.heap[b]? = w.heap[b]?) (k3 : ∀ b cur, (B.cv i).ownBlock = some b → w.heap[b]? = some (Obj.cells cur 60 (0, 0)) → w'.heap[b]? = w.heap[b]?) : qao w' F B i m := by
 cases m with
 |none => exact h
 |some m =>
  obtain ⟨g, h1, h2, h3, h4, h5, h6, h7⟩ := h
  refine ⟨g, h1, h2, (k1 g _ h1 h3).trans h3, h4.block fun b hb => ?_, h5.block fun b hb => ?_, h6, h7⟩
  ·obtain ⟨c, hc⟩ := jq h4 hb
   exact k2 b _ hb hc
  ·obtain ⟨c, hc⟩ := jq h5 hb
   exact k3 b _ hb hc
theorem MAt.frame (h : MAt w F B s) (k : ∀ b, F b → w'.heap[b]? = w.heap[b]?) : MAt w' F B s :=
 ⟨⟨h.ml.1, (k _ h.ml.1).trans h.ml.2⟩, ⟨h.sb.1, h.sb.2.choose, (k _ h.sb.1).trans h.sb.2.choose_spec.1, h.sb.2.choose_spec.2⟩, fun i hi => ⟨(h.r i hi).1.block fun g hg => k g ((h.r i hi).2 g hg), (h.r i hi).2⟩, fun i hi => (h.mv i hi).frame k, h.mpi, h.cvi, h.stg⟩
theorem MAt.mono (h : MAt w F B s) (k : ∀ b, F b → F' b) : MAt w F' B s :=
 ⟨⟨k _ h.ml.1, h.ml.2⟩, ⟨k _ h.sb.1, h.sb.2⟩, fun i hi => ⟨(h.r i hi).1, fun b hb => k b ((h.r i hi).2 b hb)⟩, fun i hi => (h.mv i hi).mono k, h.mpi, h.cvi, h.stg⟩
theorem MAt.lts (h : MAt w F B s) : MAt w (fun b => F b ∧ b < w.heap.size) B s :=
 ⟨⟨⟨h.ml.1, (zx h.ml.2).1⟩, h.ml.2⟩, ⟨⟨h.sb.1, (zx h.sb.2.choose_spec.1).1⟩, h.sb.2⟩, fun i hi => ⟨(h.r i hi).1, fun b hb => ⟨(h.r i hi).2 b hb, (World.ownsRow.lt (h.r i hi).1.1 b hb).2⟩⟩, fun i hi => (h.mv i hi).lt, h.mpi, h.cvi, h.stg⟩
theorem MAt.below (h : MAt w F B s) (hb : Below w.heap.size w w') : MAt w' F B s := (h.lts.frame fun b hb' => hb.block b hb'.2).mono fun _ h => h.1
theorem MAt.cells (h : MAt w F B s) (j : Nat) (v : Value) (hj : (qen B s)[j]? = some v) : w.cell? ⟨B.ml, j, none⟩ = some v ∧ w.frozen? ⟨B.ml, j, none⟩ = false := ⟨by simp [World.cell?, h.ml.2, hj], by simp [World.frozen?, h.ml.2]⟩
theorem MAt.sbc (h : MAt w F B s) {i : Nat} (hi : i < 4) : w.cell? ⟨B.sb, i * 3, none⟩ = some (.int .i64 (s.ow i)) ∧ w.cell? ⟨B.sb, i * 3 + 1, none⟩ = some (B.lv i) ∧ w.cell? ⟨B.sb, i * 3 + 2, none⟩ = some (.pointer (mpA (B.mp i))) ∧ ∀ j, w.frozen? ⟨B.sb, j, none⟩ = false := by
 obtain ⟨cur, h1, h2⟩ := h.sb.2
 obtain ⟨h3, h4, h5⟩ := h2 i hi
 exact ⟨by simp [World.cell?, h1, h3], by simp [World.cell?, h1, h4], by simp [World.cell?, h1, h5], fun j => by simp [World.frozen?, h1]⟩
theorem MAt.mdl (h : MAt w F B s) : Mdl w B.ml B.sb B.lv (fun i => mpA (B.mp i)) s.kv := by
 obtain ⟨cur, h1, h2⟩ := h.sb.2
 exact ⟨⟨B.cap, (h.cells 1 _ rfl).1⟩, ⟨_, h.ml.2⟩, ⟨cur, h1, fun i hi => ⟨(h2 i hi).2.1, (h2 i hi).2.2, _, (h2 i hi).1⟩⟩, fun i hi => (h.r i hi).1⟩
theorem MAt.store (h : MAt w F B s) (hn : n < 4) {v : Value} {X : KV} (hv : yh w 0 v X) (hF : ∀ b, v.ownBlock = some b → F b) : MAt (w.setCell ⟨B.sb, n * 3 + 1, none⟩ v) F { B with lv := qo B.lv n v } { s with kv := qaf s.kv n X } := by
 obtain ⟨cur, h1, h2⟩ := h.sb.2
 have hs := xhs w B.sb (n * 3 + 1) cur 104 v h1
 have ho : ∀ b, b ≠ B.sb → (w.setCell ⟨B.sb, n * 3 + 1, none⟩ v).heap[b]? = w.heap[b]? := fun b hb => xho w _ b v hb
 have no : ∀ (b : Nat) (cur : Array Value) (ty : TypeId), w.heap[b]? = some (Obj.cells cur ty (0, 0)) → ty ≠ 104 → (w.setCell ⟨B.sb, n * 3 + 1, none⟩ v).heap[b]? = w.heap[b]? := fun b c ty hbb n1 => ho b fun e => by
  rw [e, h1] at hbb
  have e2 := xoi hbb
  injection e2 with _ e3
  exact n1 e3.symm
 have hrow : ∀ {u : Value} {l : KV}, yh w 0 u l → yh (w.setCell ⟨B.sb, n * 3 + 1, none⟩ v) 0 u l := fun {u l} hr => hr.block fun g hg => by
  obtain ⟨c, hc⟩ := hr.ty hg
  exact no g c _ hc (by decide)
 refine ⟨⟨h.ml.1, (no _ _ _ h.ml.2 (by decide)).trans h.ml.2⟩, ⟨h.sb.1, _, hs, fun i hi => ?_⟩, fun i hi => ?_, fun i hi => ((h.mv i hi).keep (fun b c _ hb => no b c _ hb (by decide)) (fun b c _ hb => no b c _ hb (by decide)) (fun b c _ hb => no b c _ hb (by decide))).same rfl rfl rfl, h.mpi, h.cvi, h.stg⟩
 ·obtain ⟨h3, h4, h5⟩ := h2 i hi
  have hsz : i * 3 + 1 < cur.size := (zx h4).1
  refine ⟨by rw [xne (by omega), h3], ?_, by rw [xne (by omega), h5]⟩
  show _ = some (qo B.lv n v i)
  by_cases e : i = n
  ·subst e
   rw [ja, xsl hsz]
  ·rw [qy _ _ e, xne (by omega), h4]
 ·show yh _ 0 (qo B.lv n v i) (qaf s.kv n X i) ∧ ∀ b, (qo B.lv n v i).ownBlock = some b → F b
  unfold qaf
  by_cases e : i = n
  ·subst e; rw [if_pos rfl, ja]; exact ⟨hrow hv, hF⟩
  ·rw [if_neg e, qy _ _ e]; exact ⟨hrow (h.r i hi).1, (h.r i hi).2⟩
structure RX (x : Nat) (pv cv : Value) (m : Mv) (w : World) : Prop where
 b : w.heap[x]? = some (.cells (j5 pv cv m) 110 (0, 0))
 r : qmo w cv m.cs
theorem RX.lt {x : Nat} {pv cv : Value} {m : Mv} (h : RX x pv cv m w) : x < w.heap.size := (zx h.b).1
theorem RX.below {x : Nat} {pv cv : Value} {m : Mv} (h : RX x pv cv m w) (hb : Below w.heap.size w w') : RX x pv cv m w' := ⟨(hb.block _ h.lt).trans h.b, h.r.block fun g hg => hb.block g (World.ownsRow.lt h.r g hg).2⟩
theorem RX.cells {x : Nat} {pv cv : Value} {m : Mv} (h : RX x pv cv m w) : w.cell? ⟨x, 4, none⟩ = some cv ∧ w.cell? ⟨x, 9, none⟩ = some (.bool m.sealed) ∧ w.frozen? ⟨x, 4, none⟩ = false := ⟨by simp [World.cell?, h.b, j5], by simp [World.cell?, h.b, j5], by simp [World.frozen?, h.b]⟩
theorem MAt.rx (h : MAt w F B s) (hn : n < 4) {m : Mv} (hm : s.mv n = some m) : ∃ x, B.mp n = some x ∧ RX x (B.pv n) (B.cv n) m w := by
 have h0 := h.mv n hn
 rw [hm] at h0
 obtain ⟨g, z1, z2, z3, z4, z5, z6, z7⟩ := h0
 exact ⟨g, z1, z3, z5⟩
theorem MAt.app {x : Nat} {m : Mv} {cs' : List Chg} {cv' : Value} (h : MAt w F B s) (hn : n < 4) (hmp : B.mp n = some x) (hmv : s.mv n = some m) (hb : But (fun q => q = x ∨ (B.cv n).ownBlock = some q) w w')
  (h4 : RX x (B.pv n) cv' { m with cs := cs' } w') (hc : ∀ b, cv'.ownBlock = some b → (B.cv n).ownBlock = some b ∨ w.heap.size ≤ b) :
  MAt w' (fun b => F b ∨ w.heap.size ≤ b) { B with cv := qo B.cv n cv' } { s with mv := qo s.mv n (some { m with cs := cs' }) } := by
 have lt : ∀ {b : Nat} {o : Obj}, w.heap[b]? = some o → b < w.heap.size := fun hb => (zx hb).1
 have h0 := h.mv n hn
 rw [hmv] at h0
 obtain ⟨g, z1, z2, z3, z4, z5, z6, z7⟩ := h0
 rw [hmp] at z1
 cases z1
 have tyr : ∀ b, (B.cv n).ownBlock = some b → ∃ cur, w.heap[b]? = some (Obj.cells cur 60 (0, 0)) := fun b hb => jq z5 hb
 have noT : ∀ (b : Nat) (cur : Array Value) (ty : TypeId), w.heap[b]? = some (Obj.cells cur ty (0, 0)) → ty ≠ 110 → ty ≠ 60 → w'.heap[b]? = w.heap[b]? := fun b cur ty hbb n1 n2 => hb.keep b (lt hbb) (by
  rintro (e | e)
  ·rw [e, z3] at hbb
   have e2 := xoi hbb
   injection e2 with _ e3
   exact n1 e3.symm
  ·obtain ⟨c, hc⟩ := tyr b e
   rw [hc] at hbb
   have e2 := xoi hbb
   injection e2 with _ e3
   exact n2 e3.symm)
 obtain ⟨cur, k1, k2⟩ := h.sb.2
 refine ⟨⟨.inl h.ml.1, (noT _ _ _ h.ml.2 (by decide) (by decide)).trans h.ml.2⟩, ⟨.inl h.sb.1, cur, (noT _ _ _ k1 (by decide) (by decide)).trans k1, k2⟩, fun i hi => ⟨(h.r i hi).1.block fun q hq => ?_, fun b hb => .inl ((h.r i hi).2 b hb)⟩, fun i hi => ?_, h.mpi, fun i j q hi hj h1 h2 => ?_, h.stg⟩
 ·obtain ⟨c, hc⟩ := (h.r i hi).1.ty hq
  exact noT q c _ hc (by decide) (by decide)
 ·show qao w' _ _ i (qo s.mv n _ i)
  by_cases e : i = n
  ·subst e
   rw [ja]
   refine ⟨x, hmp, .inl z2, ?_, ?_, ?_, fun b hb => .inl (z6 b hb), fun b hb => ?_⟩
   ·rw [h4.b]
    show _ = some (Obj.cells (j5 (B.pv i) (qo B.cv i cv' i) _) _ _)
    rw [ja]
   ·exact z4.block fun b hb => by
     obtain ⟨c, hc⟩ := jq z4 hb
     exact noT b c _ hc (by decide) (by decide)
   ·show qmo w' (qo B.cv i cv' i) cs'
    rw [ja]
    exact h4.r
   ·have hb : (qo B.cv i cv' i).ownBlock = some b := hb
    rw [ja] at hb
    exact (hc b hb).imp (z7 b) id
  ·rw [qy _ _ e]
   have h1 : qao w' (fun b => F b ∨ w.heap.size ≤ b) B i (s.mv i) := ((h.mv i hi).keep (fun b cur o hbb => hb.keep b (lt hbb) (by
     rintro (e2 | e2)
     ·exact e (h.mpi i n b hi hn o (by rw [hmp, e2]))
     ·obtain ⟨c, hc⟩ := tyr b e2
      rw [hc] at hbb
      have e3 := xoi hbb
      injection e3 with _ e4
      exact absurd e4 (by decide))) (fun b cur o hbb => noT b cur _ hbb (by decide) (by decide)) (fun b cur o hbb => hb.keep b (lt hbb) (by
     rintro (e2 | e2)
     ·rw [e2, z3] at hbb
      have e3 := xoi hbb
      injection e3 with _ e4
      exact absurd e4 (by decide)
     ·exact e (h.cvi i n b hi hn o e2)))).mono fun b hb => .inl hb
   exact h1.same rfl rfl (qy _ _ e)
 ·replace h1 : (qo B.cv n cv' i).ownBlock = some q := h1
  replace h2 : (qo B.cv n cv' j).ownBlock = some q := h2
  have ltc : ∀ i, i < 4 → ∀ b, (B.cv i).ownBlock = some b → b < w.heap.size := fun i hi b hb => by
   have h0 := h.mv i hi
   cases hmi : s.mv i with
   |none => rw [hmi] at h0; rw [h0.2] at hb; cases hb
   |some mi =>
    rw [hmi] at h0
    obtain ⟨q, y1, y2, y3, y4, y5, y6, y7⟩ := h0
    exact (World.ownsRow.lt y5 b hb).2
  by_cases e1 : i = n
  ·by_cases e2 : j = n
   ·omega
   ·subst e1
    rw [ja] at h1
    rw [qy _ _ e2] at h2
    rcases hc q h1 with h3 | h3
    ·exact absurd (h.cvi i j q hn hj h3 h2) fun e => e2 e.symm
    ·have := ltc j hj q h2; omega
  ·rw [qy _ _ e1] at h1
   by_cases e2 : j = n
   ·subst e2
    rw [ja] at h2
    rcases hc q h2 with h3 | h3
    ·exact absurd (h.cvi i j q hi hn h1 h3) e1
    ·have := ltc i hi q h1; omega
   ·rw [qy _ _ e2] at h2
    exact h.cvi i j q hi hj h1 h2
theorem MAt.q2k (h : MAt w F B s) : B.sb < w.heap.size := h.lts.sb.1.2
theorem MAt.cvs {m : Mv} (h : MAt w F B s) (hn : n < 4) (hm : s.mv n = some m) : (B.cv n).ownBlock ≠ some B.sb ∧ ∀ b, (B.cv n).ownBlock = some b → F b ∧ b < w.heap.size := by
 have h0 := h.mv n hn
 rw [hm] at h0
 obtain ⟨g, z1, z2, z3, z4, z5, z6, z7⟩ := h0
 refine ⟨fun e => ?_, fun b hb => ⟨z7 b hb, (World.ownsRow.lt z5 b hb).2⟩⟩
 obtain ⟨c, hc⟩ := jq z5 e
 obtain ⟨cur, k1, _⟩ := h.sb.2
 rw [k1] at hc
 have e2 := xoi hc
 injection e2 with _ e3
 exact absurd e3 (by decide)
theorem MAt.mpG {x : Nat} {m : Mv} (h : MAt w F B s) (hn : n < 4) (hm : s.mv n = some m) (hx : B.mp n = some x) : F x := by
 have h0 := h.mv n hn
 rw [hm] at h0
 obtain ⟨g, z1, z2, _⟩ := h0
 rw [hx] at z1; cases z1
 exact z2
end
end Go.Proofs.YtkpekiajdlolnabGreat
namespace Go.Proofs
open Go.RowKit Go.Maps Go.Sort Go.Shelf
def Tryz.keysOf_ren : Go.Shelf.Ren := ⟨fun | 7 => 91 | 10 => 124 | n => n, fun | 23 => 140 | 26 => 9 | 3 => 146 | 28 => 173 | 0 => 0 | 27 => 172 | 33 => 28 | 4 => 4 | n => n, fun | n => n⟩
theorem Tryz.keysOf : Go.Proofs.SlLaysZ.n7 Tryz.prog Tryz.keysOf_ren := {
 mixed := by kernel_rfl
 f7 := ⟨Tryz.f91.name, by decide, Tryz.func91.trans (congrArg some (by kernel_rfl))⟩
 f10 := ⟨Tryz.f124.name, by decide, Tryz.func124.trans (congrArg some (by kernel_rfl))⟩
 t0 := Tryz.underlying0
 a0 := Tryz.isAgg0
 z0 := Tryz.sizeOf0
 v0 := Tryz.zeroValue0
 t4 := Tryz.underlying4
 a4 := Tryz.isAgg4
 z4 := Tryz.sizeOf4
 v4 := Tryz.zeroValue4
 t23 := Tryz.underlying140
 a23 := Tryz.isAgg140
 z23 := Tryz.sizeOf140
 v23 := Tryz.zeroValue140
 t26 := Tryz.underlying9
 a26 := Tryz.isAgg9
 z26 := Tryz.sizeOf9
 v26 := Tryz.zeroValue9
 t27 := Tryz.underlying172
 a27 := Tryz.isAgg172
 z27 := Tryz.sizeOf172
 v27 := Tryz.zeroValue172
 t28 := Tryz.underlying173
 a28 := Tryz.isAgg173
 z28 := Tryz.sizeOf173
 v28 := Tryz.zeroValue173
 t33 := Tryz.underlying28
 a33 := Tryz.isAgg28
 z33 := Tryz.sizeOf28
 v33 := Tryz.zeroValue28 }
def Tryz.sortedOf_ren : Go.Shelf.Ren := ⟨fun | 6 => 90 | 8 => 122 | 9 => 123 | 11 => 135 | 13 => 137 | 12 => 136 | 23 => 151 | 24 => 152 | 14 => 142 | 15 => 143 | 16 => 144 | 17 => 145 | 18 => 146 | 19 => 147 | 20 => 148 | 21 => 149 | 22 => 150 | 25 => 153 | 26 => 154 | 27 => 155 | 28 => 156 | 29 => 157 | 30 => 158 | 31 => 159 | n => n, fun | 26 => 9 | 28 => 173 | 24 => 33 | 0 => 0 | 3 => 3 | 37 => 165 | 48 => 120 | 50 => 117 | 4 => 4 | 40 => 225 | 39 => 224 | 45 => 88 | 5 => 5 | 9 => 9 | 51 => 233 | 55 => 236 | 57 => 238 | 58 => 239 | 33 => 28 | n => n, fun | n => n⟩
theorem Tryz.sortedOf : Go.Proofs.SlLaysZ.n6 Tryz.prog Tryz.sortedOf_ren := {
 mixed := by kernel_rfl
 f6 := ⟨Tryz.f90.name, by decide, Tryz.func90.trans (congrArg some (by kernel_rfl))⟩
 f8 := ⟨Tryz.f122.name, by decide, Tryz.func122.trans (congrArg some (by kernel_rfl))⟩
 f11 := ⟨Tryz.f135.name, by decide, Tryz.func135.trans (congrArg some (by kernel_rfl))⟩
 t0 := Tryz.underlying0
 a0 := Tryz.isAgg0
 z0 := Tryz.sizeOf0
 v0 := Tryz.zeroValue0
 t24 := Tryz.underlying33
 a24 := Tryz.isAgg33
 z24 := Tryz.sizeOf33
 v24 := Tryz.zeroValue33
 t26 := Tryz.underlying9
 a26 := Tryz.isAgg9
 z26 := Tryz.sizeOf9
 v26 := Tryz.zeroValue9
 t28 := Tryz.underlying173
 a28 := Tryz.isAgg173
 z28 := Tryz.sizeOf173
 v28 := Tryz.zeroValue173
 i26 := by kernel_rfl }
def Tryz.sortOf_ren : Go.Shelf.Ren := ⟨fun | 6 => 123 | 8 => 137 | 9 => 136 | 19 => 151 | 20 => 152 | 21 => 142 | 22 => 143 | 23 => 144 | 24 => 145 | 25 => 146 | 26 => 147 | 27 => 148 | 28 => 149 | 29 => 150 | 36 => 153 | 31 => 154 | 32 => 155 | 37 => 156 | 38 => 157 | 39 => 158 | 41 => 159 | n => n, fun | 27 => 33 | 29 => 9 | 3 => 3 | 32 => 165 | 26 => 33 | 0 => 0 | 44 => 120 | 46 => 117 | 4 => 4 | 36 => 225 | 35 => 224 | 41 => 88 | 5 => 5 | 9 => 9 | 53 => 233 | 57 => 236 | 63 => 238 | 64 => 239 | n => n, fun | n => n⟩
theorem Tryz.sortOf : Go.Proofs.SlLaysM.n6 Tryz.prog Tryz.sortOf_ren := {
 mixed := by kernel_rfl
 f6 := ⟨Tryz.f123.name, by decide, Tryz.func123.trans (congrArg some (by kernel_rfl))⟩
 f8 := Tryz.func137.trans (congrArg some (by kernel_rfl))
 f9 := ⟨Tryz.f136.name, by decide, Tryz.func136.trans (congrArg some (by kernel_rfl))⟩
 f19 := Tryz.func151.trans (congrArg some (by kernel_rfl))
 f20 := Tryz.func152.trans (congrArg some (by kernel_rfl))
 f21 := ⟨Tryz.f142.name, by decide, Tryz.func142.trans (congrArg some (by kernel_rfl))⟩
 f22 := ⟨Tryz.f143.name, by decide, Tryz.func143.trans (congrArg some (by kernel_rfl))⟩
 f23 := ⟨Tryz.f144.name, by decide, Tryz.func144.trans (congrArg some (by kernel_rfl))⟩
 f24 := ⟨Tryz.f145.name, by decide, Tryz.func145.trans (congrArg some (by kernel_rfl))⟩
 f25 := ⟨Tryz.f146.name, by decide, Tryz.func146.trans (congrArg some (by kernel_rfl))⟩
 f26 := ⟨Tryz.f147.name, by decide, Tryz.func147.trans (congrArg some (by kernel_rfl))⟩
 f27 := ⟨Tryz.f148.name, by decide, Tryz.func148.trans (congrArg some (by kernel_rfl))⟩
 f28 := ⟨Tryz.f149.name, by decide, Tryz.func149.trans (congrArg some (by kernel_rfl))⟩
 f29 := ⟨Tryz.f150.name, by decide, Tryz.func150.trans (congrArg some (by kernel_rfl))⟩
 f31 := Tryz.func154.trans (congrArg some (by kernel_rfl))
 f32 := Tryz.func155.trans (congrArg some (by kernel_rfl))
 f36 := ⟨Tryz.f153.name, by decide, Tryz.func153.trans (congrArg some (by kernel_rfl))⟩
 f37 := ⟨Tryz.f156.name, by decide, Tryz.func156.trans (congrArg some (by kernel_rfl))⟩
 f38 := ⟨Tryz.f157.name, by decide, Tryz.func157.trans (congrArg some (by kernel_rfl))⟩
 f39 := ⟨Tryz.f158.name, by decide, Tryz.func158.trans (congrArg some (by kernel_rfl))⟩
 f41 := ⟨Tryz.f159.name, by decide, Tryz.func159.trans (congrArg some (by kernel_rfl))⟩
 t0 := Tryz.underlying0
 a0 := Tryz.isAgg0
 z0 := Tryz.sizeOf0
 v0 := Tryz.zeroValue0
 t3 := Tryz.underlying3
 a3 := Tryz.isAgg3
 z3 := Tryz.sizeOf3
 v3 := Tryz.zeroValue3
 t4 := Tryz.underlying4
 a4 := Tryz.isAgg4
 z4 := Tryz.sizeOf4
 v4 := Tryz.zeroValue4
 t5 := Tryz.underlying5
 a5 := Tryz.isAgg5
 z5 := Tryz.sizeOf5
 v5 := Tryz.zeroValue5
 t9 := Tryz.underlying9
 a9 := Tryz.isAgg9
 z9 := Tryz.sizeOf9
 v9 := Tryz.zeroValue9
 t26 := Tryz.underlying33
 a26 := Tryz.isAgg33
 z26 := Tryz.sizeOf33
 v26 := Tryz.zeroValue33
 t27 := Tryz.underlying33
 a27 := Tryz.isAgg33
 z27 := Tryz.sizeOf33
 v27 := Tryz.zeroValue33
 t29 := Tryz.underlying9
 a29 := Tryz.isAgg9
 z29 := Tryz.sizeOf9
 v29 := Tryz.zeroValue9
 t32 := Tryz.underlying165
 a32 := Tryz.isAgg165
 z32 := Tryz.sizeOf165
 v32 := Tryz.zeroValue165
 t35 := Tryz.underlying224
 a35 := Tryz.isAgg224
 z35 := Tryz.sizeOf224
 v35 := Tryz.zeroValue224
 t36 := Tryz.underlying225
 a36 := Tryz.isAgg225
 z36 := Tryz.sizeOf225
 v36 := Tryz.zeroValue225
 t41 := Tryz.underlying88
 a41 := Tryz.isAgg88
 z41 := Tryz.sizeOf88
 v41 := Tryz.zeroValue88
 t44 := Tryz.underlying120
 a44 := Tryz.isAgg120
 z44 := Tryz.sizeOf120
 v44 := Tryz.zeroValue120
 t46 := Tryz.underlying117
 a46 := Tryz.isAgg117
 z46 := Tryz.sizeOf117
 v46 := Tryz.zeroValue117
 t53 := Tryz.underlying233
 a53 := Tryz.isAgg233
 z53 := Tryz.sizeOf233
 v53 := Tryz.zeroValue233
 t57 := Tryz.underlying236
 a57 := Tryz.isAgg236
 z57 := Tryz.sizeOf236
 v57 := Tryz.zeroValue236
 t63 := Tryz.underlying238
 a63 := Tryz.isAgg238
 z63 := Tryz.sizeOf238
 v63 := Tryz.zeroValue238
 t64 := Tryz.underlying239
 a64 := Tryz.isAgg239
 z64 := Tryz.sizeOf239
 v64 := Tryz.zeroValue239 }
theorem Tryz.sorts_of (m : Nat) : AnyZ.SortsIn Tryz.prog Tryz.sortedOf_ren Fence.wide m :=
 ⟨fun blk off cap ss W hH hblk hsz => callsIn_wide.2 (AnyM.slices_Sort_string Tryz.sortOf blk off cap ss W hH hblk hsz),
  fun p cap W => callsIn_wide.2 (AnyM.slices_Sort_string_none Tryz.sortOf p cap W)⟩
theorem Tryz.maps_keys (mb : Option Nat) (W : World) : Calls Tryz.prog 91 #[.map mb] W fun e w' => e = .returned (.func (.func 124) #[] #[.pointer (some ⟨W.heap.size, 0, none⟩)]) ∧ w' = W.alloc (.cells #[.map mb] 140) :=
 callsIn_wide.1 (AnyZ.keys_in Tryz.keysOf Fence.wide 5 trivial rfl mb W)
theorem Tryz.slices_sorted {H : Type} (b nn : Nat) (D0 : DataW H) (R : Value → Option (DataW H × List MemPlace)) (w : World) (hown : w.ownsMap Tryz.prog 9 R b nn D0) (hmax : Maps.size D0 ≤ maxLen) (hbytes : Maps.size D0 * 16 ≤ 140737488355328) :
  Calls Tryz.prog 90 #[.func (.func 124) #[] #[.pointer (some ⟨w.heap.size, 0, none⟩)]] (w.alloc (.cells #[.map (some b)] 140)) fun e w' => ∃ (v : Value) (ss : List (List UInt8)), e = .returned v ∧ ss.Perm (strKeys D0) ∧
   w'.ownsRow (w.alloc (.cells #[.map (some b)] 140)).heap.size 9 1 v ss.length ((ss.mergeSort (fun x y => decide (x ≤ y))).map encStr) ∧ (v = .slice none 0 0 ↔ ss = []) ∧ Below (w.alloc (.cells #[.map (some b)] 140)).heap.size (w.alloc (.cells #[.map (some b)] 140)) w' := by
 refine (callsIn_wide (n := 5)).1 ?_
 have hbl := hown.lt
 have hseq : SeqGives Fence.wide 2 Tryz.prog 124 #[.pointer (some ⟨w.heap.size, 0, none⟩)] encStr (fun ss => ss.Perm (strKeys D0)) (Maps.size D0) (w.alloc (.cells #[.map (some b)] 140)) :=
  AnyZ.keys_gives (ρ := Tryz.keysOf_ren) { Tryz.keysOf with } Fence.wide _ trivial rfl (by omega) w.heap.size b nn D0 _ (by simp) (by simp) (by
   obtain ⟨es, clock, hb, Ft, hs, hD⟩ := hown
   exact ⟨es, clock, (Below.heap_alloc _ _ b hbl).trans hb, Ft, hs, hD⟩)
 exact AnyZ.sorted_in Tryz.sortedOf Fence.wide 5 trivial trivial trivial trivial rfl (by omega) (Tryz.sorts_of _) (enters_of Tryz.func123 (by kernel_rfl) rfl) 124 #[.pointer (some ⟨w.heap.size, 0, none⟩)] trivial (enters_of Tryz.func124 (by kernel_rfl) rfl) _ _ hmax hbytes _ hseq
end Go.Proofs
namespace Go.Proofs.YtkpekiajdlolnabGreat
open Go.RowKit Go.Maps Go.Sort
theorem q1p (L : KV) : strKeys (DM L) = L.map (·.1) := by
 show List.map _ (List.map _ L) = _
 rw [List.map_map]
 rfl
theorem q8u (a b : Bs) : bytesBefore a b = decide (a < b) := by rw [← qdh, bytesLess_eq]
theorem qpk {L : KV} (h : zi L) {ss : List Bs} (hp : ss.Perm (L.map (·.1))) : ss.mergeSort (fun x y => decide (x ≤ y)) = L.map (·.1) := by
 rw [mergeSort_of_perm hp]
 refine List.mergeSort_of_pairwise ?_
 rw [List.pairwise_map]
 refine List.Pairwise.imp ?_ h
 intro a b hab
 rw [q8u] at hab
 exact xdt (List.le_of_lt (of_decide_eq_true hab))
theorem qwy {w : World} {mb : Nat} {L : KV} (hm : j4 w mb L) (s : ByteArray) (hs : s.size ≤ maxLen) : (Instr.lookup 140 (.map (some mb)) (.string s) false).run Tryz.prog w = .ok (.agg #[sv ((jd L s.data.toList).getD [])]) w := by
 have hown := hm
 obtain ⟨v, ps, hrun, hv⟩ := hown.lookup (string_keyed Tryz.underlying9) Tryz.underlying140 (qs4 w) (zd := ev []) (zp := []) rfl (qm7 s hs)
 rw [qnz] at hv
 have : Rv v = some (ev ((jd L s.data.toList).getD []), ps) := by
  rw [hv]
  cases jd L s.data.toList <;> rfl
 rw [hrun, qvo this]
theorem qlv (pv : ByteArray) (w : World) : (Instr.field 146 (.agg #[.string pv]) 0).run Tryz.prog w = .ok (.string pv) w := by kernel_rfl
theorem jak {L : KV} (h : zi L) {j : Nat} {p : Bs × Bs} (hp : L[j]? = some p) : jd L p.1 = some p.2 := by
 have hmem : p ∈ L := List.mem_of_getElem? hp
 clear hp
 unfold jd
 induction L with
 |nil => cases hmem
 |cons q L ih =>
  obtain ⟨h1, h2⟩ := List.pairwise_cons.1 h
  rw [List.find?_cons]
  rcases List.mem_cons.1 hmem with rfl | hm
  ·simp
  ·rw [qr7 (h1 p hm)]
   exact ih h2 hm
def qhq (w : World) (L : KV) (e : Ending) (w' : World) : Prop := ∃ v, e = .returned v ∧ yh w' w.heap.size v L ∧ Below w.heap.size w w'
theorem qbx {L : KV} {j : Nat} {p : Bs × Bs} (f : Bs × Bs → Bool) (hp : L[j]? = some p) : (L.take (j + 1)).filter f = (L.take j).filter f ++ (if f p then [p] else []) := by
 obtain ⟨hj, rfl⟩ := List.getElem?_eq_some_iff.1 hp
 rw [List.take_succ_eq_append_getElem hj, List.filter_append, List.filter_cons, List.filter_nil]
section
variable {w : World} {db mb : Nat} {L : KV}
structure PrW (W : World) (db mb : Nat) (L : KV) (s t : Bs) (j : Nat) (out : Value) (w : World) : Prop where
 row : yh w W.heap.size out ((L.take j).filter (inB s t))
 below : Below W.heap.size W w
theorem PrW.app {W : World} {s t : Bs} {j : Nat} {out : Value} {p : Bs × Bs} (h : PrW W db mb L s t j out w) (hp : L[j]? = some p) (hin : inB s t p = true) {v' : Value} {w1 w2 : World} (hb1 : Below W.heap.size W w1) (hr1 : w1.ownsRow W.heap.size 74 2 out ((L.take j).filter (inB s t)).length (flat ((L.take j).filter (inB s t)))) (hg : w1.grownBy w2 out.ownBlock)
  (hr : w2.ownsRow W.heap.size 74 2 v' (((L.take j).filter (inB s t)).length + 1) (flat ((L.take j).filter (inB s t)) ++ [sv p.1, sv p.2])) (ha : qcf w2 v') : PrW W db mb L s t (j + 1) v' w2 := by
 refine ⟨?_, zo hb1 hg hr1 (jy _) hb1.size⟩
 rw [qbx _ hp, hin, if_pos rfl]
 exact qdj hr ha (jy _) (by rw [qb9]; rfl)
theorem PrW.skip {W : World} {s t : Bs} {j : Nat} {out : Value} {p : Bs × Bs} (h : PrW W db mb L s t j out w) (hp : L[j]? = some p) (hin : inB s t p = false) : PrW W db mb L s t (j + 1) out w := by
 refine ⟨?_, h.below⟩
 rw [qbx _ hp, hin]
 simpa using h.row
theorem sorted_at (hm : j4 w mb L) (hri : zi L) (hL : L.length ≤ 12) :
  Calls Tryz.prog 90 #[.func (.func 124) #[] #[.pointer (some ⟨w.heap.size, 0, none⟩)]] (w.alloc (.cells #[.map (some mb)] 140)) fun e w' =>
   ((L = [] ∧ e = .returned (.slice none 0 0)) ∨ ∃ kb cap, L ≠ [] ∧ e = .returned (.slice (some ⟨kb, 0, none⟩) L.length cap) ∧ ∀ j (p : Bs × Bs), L[j]? = some p → w'.cell? ⟨kb, j, none⟩ = some (sv p.1)) ∧ Below w.heap.size w w' := by
 refine (Tryz.slices_sorted mb L.length (DM L) Rv w hm (by rw [qi8]; unfold maxLen; omega) (by rw [qi8]; omega)).mono ?_
 rintro e w' ⟨kv, ss, rfl, hp, hr, hn, hb⟩
 have hb' : Below w.heap.size w w' := ((jo _ w).alloc (jy _) _).trans (hb.mono (by simp))
 rw [q1p] at hp
 have hlen : ss.length = L.length := by rw [hp.length_eq, List.length_map]
 rw [qpk hri hp] at hr
 refine ⟨?_, hb'⟩
 by_cases he : L = []
 ·have : ss = [] := List.eq_nil_of_length_eq_zero (by rw [hlen, he]; rfl)
  exact .inl ⟨he, by rw [hn.2 this]⟩
 ·rcases hr.2 with ⟨_, hz⟩ | ⟨kb, cap, cur, hkv, _⟩
  ·exact absurd (List.eq_nil_of_length_eq_zero (by omega)) he
  ·refine .inr ⟨kb, cap, he, by rw [hkv, hlen], fun j p hj => ?_⟩
   have h1 : ((L.map (·.1)).map encStr)[j]? = some (sv p.1) := by rw [List.getElem?_map, List.getElem?_map, hj]; rfl
   have h2 := hr.cells (g := kb) (by rw [hkv]; rfl) _ _ h1
   rwa [Addr.add_lit, Nat.zero_add] at h2
theorem qub (hd : w.cell? ⟨db, 0, none⟩ = some (.map (some mb))) (hm : j4 w mb []) (s t : ByteArray) :
  Calls Tryz.prog 56 #[.pointer (some ⟨db, 0, none⟩), .string s, .string t] w (qhq w []) := by
 have HS := Lib.hid (sorted_at hm List.Pairwise.nil (by decide))
 clear hm
 go_enter Tryz.func56, Tryz.ntmps56
 go_wp2_with (first
  |(go_at_call 91; refine (Tryz.maps_keys _ _).mono ?_; rintro e w' ⟨rfl, rfl⟩)
  |(go_at_call 90; refine (HS.out.mono fun e w' h => (show (e = .returned (.slice none 0 0)) ∧ Below w.heap.size w w' from ⟨h.1.elim (·.2) (fun ⟨_, _, h, _⟩ => (h rfl).elim), h.2⟩)).mono ?_; rintro e w2 ⟨rfl, hb2⟩; have HB := Lib.hid hb2; clear hb2))
 refine wp_loop_rounds 1 ?_
 rw [rounds_succ]
 go_wp2
 go_ret
 exact ⟨_, rfl, ⟨World.ownsRow_nil _ _ _ _, qcf.nil _⟩, HB.out⟩
theorem qrc (hne : L ≠ []) (hd : w.cell? ⟨db, 0, none⟩ = some (.map (some mb))) (hm : j4 w mb L) (hri : zi L) (hL : L.length ≤ 12) (hks : ∀ p ∈ L, p.1.length ≤ maxLen) (s t : ByteArray) :
  Calls Tryz.prog 56 #[.pointer (some ⟨db, 0, none⟩), .string s, .string t] w (qhq w (L.filter (inB s.data.toList t.data.toList))) := by
 have HS := Lib.hid (sorted_at hm hri hL)
 have HM := Lib.hid hm
 have HR := Lib.hid hri
 have HK := Lib.hid hks
 have HN := Lib.hid hne
 clear hm hri hks hne
 go_enter Tryz.func56, Tryz.ntmps56
 go_wp2_with (first
  |(go_at_call 91; refine (Tryz.maps_keys _ _).mono ?_; rintro e w' ⟨rfl, rfl⟩)
  |(go_at_call 90; refine (HS.out.mono fun e w' h => (show (∃ kb cap, e = .returned (.slice (some ⟨kb, 0, none⟩) L.length cap) ∧ ∀ j (p : Bs × Bs), L[j]? = some p → w'.cell? ⟨kb, j, none⟩ = some (sv p.1)) ∧ Below w.heap.size w w' from ⟨h.1.elim (fun h => (HN.out h.1).elim) (fun ⟨kb, cap, _, h⟩ => ⟨kb, cap, h⟩), h.2⟩)).mono ?_; rintro e w2 ⟨⟨kb, cap, rfl, hkc⟩, hb2⟩; have HC := Lib.hid hkc; have HB := Lib.hid hb2; clear hkc hb2))
 go_loopw [7, 17] (fun out i wr => ∃ j : Nat, j ≤ L.length ∧ i = .int .i64 j ∧ Hid (PrW w2 db mb L s.data.toList t.data.toList j out wr)) (fun _ i _ => L.length - (intOf i).toNat)
 case atStart => exact ⟨0, xzl _, rfl, Lib.hid ⟨⟨World.ownsRow_nil _ _ _ _, qcf.nil _⟩, jo _ _⟩⟩
 case round =>
  obtain ⟨j, hj, rfl, HP⟩ := hrel
  have HBD : Hid (((L.take j).filter (inB s.data.toList t.data.toList)).length + 1 ≤ 1073741824) := by
   have h1 := List.length_filter_le (inB s.data.toList t.data.toList) (L.take j)
   rw [List.length_take] at h1
   show _ ≤ _
   omega
  by_cases hjl : j < L.length
  ·obtain ⟨p, hp⟩ : ∃ p, L[j]? = some p := ⟨_, List.getElem?_eq_getElem hjl⟩
   have hc0 := HC.out j p hp
   have hkc := (HP.out.below.cell (xbl _ _ hc0)).trans hc0
   have hbw : Below w.heap.size w wr := HB.out.trans (HP.out.below.mono HB.out.size)
   have hdr := (hbw.cell (xbl _ _ hd)).trans hd
   have hmem : p ∈ L := List.mem_of_getElem? hp
   have hlk := qwy (HM.out.block (hbw.block mb HM.out.lt)) ⟨p.1.toArray⟩ (by have := HK.out p hmem; simpa [ByteArray.size] using this)
   rw [show (⟨p.1.toArray⟩ : ByteArray).data.toList = p.1 by simp, jak HR.out hp, Option.getD_some] at hlk
   have e1 : Op.bytesLess (⟨p.1.toArray⟩ : ByteArray).toList s.toList = bytesBefore p.1 s.data.toList := by rw [qdh, ByteArray.toList_eq, ByteArray.toList_eq]
   have e2 : Op.bytesLess (⟨p.1.toArray⟩ : ByteArray).toList t.toList = bytesBefore p.1 t.data.toList := by rw [qdh, ByteArray.toList_eq, ByteArray.toList_eq]
   have e3 : t.toList.isEmpty = t.data.toList.isEmpty := by rw [ByteArray.toList_eq]
   have qcv : inB s.data.toList t.data.toList p = (!Op.bytesLess (⟨p.1.toArray⟩ : ByteArray).toList s.toList && (t.toList.isEmpty || Op.bytesLess (⟨p.1.toArray⟩ : ByteArray).toList t.toList)) := by rw [e1, e2, e3]; rfl
   clear hc0 hbw hmem e1 e2 e3
   cases g1 : Op.bytesLess (⟨p.1.toArray⟩ : ByteArray).toList s.toList
   ·cases g2 : t.toList.isEmpty
    ·cases g3 : Op.bytesLess (⟨p.1.toArray⟩ : ByteArray).toList t.toList
     ·have hin : inB s.data.toList t.data.toList p = false := by rw [qcv, g1, g2, g3]; rfl
      clear qcv
      have HSK := Lib.hid (HP.out.skip hp hin)
      unfold sv at hkc hlk
      generalize (⟨p.1.toArray⟩ : ByteArray) = pk at *
      generalize (⟨p.2.toArray⟩ : ByteArray) = pv at *
      clear hin hp
      go_wp2
      go_roundw
      case rel => exact ⟨j + 1, by omega, rfl, HSK.out⟩
      case measure => simp [intOf]; omega
     ·have hin : inB s.data.toList t.data.toList p = true := by rw [qcv, g1, g2, g3]; rfl
      clear qcv
      have qmn := Lib.hid (fun v' w1 w3 => HP.out.app (v' := v') (w1 := w1) (w2 := w3) hp hin)
      unfold sv at qmn hkc hlk
      generalize (⟨p.1.toArray⟩ : ByteArray) = pk at *
      generalize (⟨p.2.toArray⟩ : ByteArray) = pv at *
      clear hin hp
      have hfd := qlv pv
      go_wp2_with (at_builtin; refine j6 (v := u7) rfl (.tmp 33) (.tmp 43) rfl rfl rfl (HP.out.row.1.alloc _) (HP.out.row.2.alloc _) (Src.one wr pk pv _) HBD.out (xlt HP.out.below.size (by simp)) ?_; intro v3 w3 hrow3 qca hg3; have HP3 := Lib.hid (qmn.out v3 _ w3 (HP.out.below.alloc HP.out.below.size _) (HP.out.row.1.alloc _) hg3 hrow3 qca); clear hrow3 qca hg3)
      go_roundw
      case rel => exact ⟨j + 1, by omega, rfl, HP3⟩
      case measure => simp [intOf]; omega
    ·have hin : inB s.data.toList t.data.toList p = true := by rw [qcv, g1, g2]; rfl
     clear qcv
     have qmn := Lib.hid (fun v' w1 w3 => HP.out.app (v' := v') (w1 := w1) (w2 := w3) hp hin)
     unfold sv at qmn hkc hlk
     generalize (⟨p.1.toArray⟩ : ByteArray) = pk at *
     generalize (⟨p.2.toArray⟩ : ByteArray) = pv at *
     clear hin hp
     have hfd := qlv pv
     go_wp2_with (at_builtin; refine j6 (v := u7) rfl (.tmp 33) (.tmp 43) rfl rfl rfl (HP.out.row.1.alloc _) (HP.out.row.2.alloc _) (Src.one wr pk pv _) HBD.out (xlt HP.out.below.size (by simp)) ?_; intro v3 w3 hrow3 qca hg3; have HP3 := Lib.hid (qmn.out v3 _ w3 (HP.out.below.alloc HP.out.below.size _) (HP.out.row.1.alloc _) hg3 hrow3 qca); clear hrow3 qca hg3)
     go_roundw
     case rel => exact ⟨j + 1, by omega, rfl, HP3⟩
     case measure => simp [intOf]; omega
   ·have hin : inB s.data.toList t.data.toList p = false := by rw [qcv, g1]; rfl
    clear qcv
    have HSK := Lib.hid (HP.out.skip hp hin)
    unfold sv at hkc hlk
    generalize (⟨p.1.toArray⟩ : ByteArray) = pk at *
    generalize (⟨p.2.toArray⟩ : ByteArray) = pv at *
    clear hin hp
    go_wp2
    go_roundw
    case rel => exact ⟨j + 1, by omega, rfl, HSK.out⟩
    case measure => simp [intOf]; omega
  ·obtain rfl : j = L.length := by omega
   have HE := Lib.hid HP.out.row
   rw [List.take_length] at HE
   go_wp2
   go_ret
   exact ⟨_, rfl, qdj HE.out.1 HE.out.2 HB.out.size rfl, HB.out.trans (HP.out.below.mono HB.out.size)⟩
theorem qsr (hd : w.cell? ⟨db, 0, none⟩ = some (.map (some mb))) (hm : j4 w mb L) (hri : zi L) (hL : L.length ≤ 12) (hks : ∀ p ∈ L, p.1.length ≤ maxLen) (s t : ByteArray) :
  Calls Tryz.prog 56 #[.pointer (some ⟨db, 0, none⟩), .string s, .string t] w (qhq w (L.filter (inB s.data.toList t.data.toList))) := by
 by_cases hne : L = []
 ·subst hne; exact qub hd hm s t
 ·exact qrc hne hd hm hri hL hks s t
end
end Go.Proofs.YtkpekiajdlolnabGreat
