/-
 PROVED IN PARTS: text 8 of 8 of the carrying ground of the claim (see each part's own remark). Conditions: those that each theorem names.
-/
import Derived.Test.YtkpekiajdlolnabGreatM07
import Derived.Test.YtkpekiajdlolnabGreatM06
import Derived.ChangeKeysEq
import Derived.Test.YtkpekiajdlolnabGreatM05
import Derived.Deep.RegionHeld3
set_option linter.unusedVariables false
set_option linter.unusedSimpArgs false
set_option maxRecDepth 100000
set_option maxHeartbeats 4000000
namespace Go.Proofs.YtkpekiajdlolnabGreat.Ph
open Go.Conc Go.ConcN Go.RowKit Go.Maps Go.Conc.Lib Go Sim
def q8n (p : Act → World → Prop) : Exit → Act → World → Prop
 | .ret, a, w => p a w
 |_, _, _ => False
section
variable {cl : Nat} {s t : ByteArray} {most : Int} {w : World} {n : Nat} {N : Blocks} {kv : List Value}
theorem q55 (h0 : most < 0) : Code.wp Tryz.prog P1 (q8n fun a w' => a.tmps.getD 8 undef = .slice none 0 0 ∧ a.tmps.getD 9 undef = .int .i64 7 ∧ a.defers = [] ∧ w' = w) ⟨S0 cl s t most n undef undef undef, []⟩ w := by
 unfold P1 qdk
 unfold S0
 simp only [Tryz.f27, Option.getD]
 have hd : decide (most < 0) = true := xdt h0
 clear h0
 go_wp2
 exact ⟨rfl, rfl, rfl, rfl⟩
theorem q2m (h0 : most < 0) : yu N kv fS #[.pointer (some ⟨cl, 0, none⟩), .string s, .string t, .int .i64 most] w fun v w' => v = .tuple #[.slice none 0 0, .int .i64 7] ∧ (∀ b, b < w.heap.size → w'.heap[b]? = w.heap[b]?) ∧ w.heap.size ≤ w'.heap.size ∧ w'.os = w.os ∧ w'.output = w.output := by
 refine qk2.calls rfl (fun v w1 w2 s h => by rw [s.heap, s.os, s.output]; exact h) fun cs => ?_
 have he : Frame.enter XG.P fS #[.pointer (some ⟨cl, 0, none⟩), .string s, .string t, .int .i64 most] .normal = bS.at ⟨#[.pointer (some ⟨cl, 0, none⟩), .string s, .string t, .int .i64 most, undef, undef, undef, undef, undef, undef, undef, undef, undef, undef, undef, undef, undef, undef, undef, undef, undef, undef, undef, undef, undef, undef, undef, undef, undef, undef, undef, undef, undef, undef, undef, undef, undef, undef, undef, undef, undef, undef], []⟩ [.code qdk] := by
  show Frame.enter Tryz.prog fS _ .normal = _
  rw [enter_at _ Tryz.func27 (show Tryz.f27.body = some qdk from rfl)]
  have hn : Tryz.f27.ntmps = 42 := rfl
  rw [hn]
  simp only [List.size_toArray, List.length_cons, List.length_nil, Nat.reduceAdd, Nat.reduceSub, Array.replicate_succ, Array.replicate_zero, List.push_toArray, List.append_toArray, List.nil_append, List.cons_append]
  rfl
 rw [he, qph]
 refine qf.seq ?_
 refine qf.code rfl (Q := fun e a w' => e = .normal ∧ a = ⟨S0 cl s t most w.heap.size undef undef undef, []⟩ ∧ HE (H0 cl s t w) w w') ja4 (by rintro e a w ⟨rfl, _⟩; trivial) (fun e a w wc s h => ⟨h.1, h.2.1, h.2.2.same s⟩) (fun wc hs => ?_) ?_
 ·refine q4d ⟨rfl, ?_, ?_⟩
  ·rw [hs.heap]
  ·refine ⟨?_, hs.os, hs.output⟩
   show ((wc.heap.push _).push _).push _ = _
   rw [hs.heap]; rfl
 rintro _ _ w1 fr ⟨rfl, rfl, hw1⟩ rfl
 refine qf.seq ?_
 refine qf.code rfl (Q := q8n fun a w' => a.tmps.getD 8 undef = .slice none 0 0 ∧ a.tmps.getD 9 undef = .int .i64 7 ∧ a.defers = [] ∧ HE (H0 cl s t w) w w') ja5 (fun e a w h => by cases e <;> first | trivial | exact h) (fun e a w wc s h => by cases e <;> first | exact h.elim | exact ⟨h.1, h.2.1, h.2.2.1, h.2.2.2.same s⟩) (fun wc hs => ?_) ?_
 ·refine Code.wp_mono (fun e a w h => ?_) (q55 h0)
  cases e <;> first | exact h | exact ⟨h.1, h.2.1, h.2.2.1, by rw [h.2.2.2]; exact hw1.same hs⟩
 intro e a w2 fr hq hl
 cases e <;> first | exact hq.elim | skip
 obtain ⟨h8, h9, hd, hw2⟩ := hq
 obtain ⟨todo, rfl⟩ := hl
 refine qf.done fun wc hs => ⟨rfl, _, ⟨rfl, hd, rfl, _, Tryz.func27, fun w => ?_⟩, fun ρ _ => .tuple (.cons (.jk 0 0) (.cons (.int .i64 7) .nil)), rfl, ?_, ?_⟩
 ·have := qpd (w := w) (T := a.tmps)
  rw [h8, h9] at this
  exact this
 ·intro b hb
  rw [hs.heap, hw2.heap]
  unfold H0
  rw [Array.getElem?_push, if_neg (by simp; omega), Array.getElem?_push, if_neg (by simp; omega), Array.getElem?_push, if_neg (by omega)]
 ·refine ⟨?_, hs.os.trans hw2.os, hs.output.trans hw2.output⟩
  rw [hs.heap, hw2.heap, qiv]
  omega
end
noncomputable def R24 : Array Oper := match qa3 with | .seq a _ => rg a | _ => #[]
theorem jbr : tB = .seq tO (.seq tN (.seq tEm (.seq tP (.seq (.seq q3d (.block 0 tK2)) (tl1 tM))))) := rfl
theorem q61 : tK2 = .seq (hd1 tK2) (.cond (.tmp 85) q3b tK3) := rfl
theorem q62 : tK3 = .seq (hd1 tK3) (.cond (.tmp 103) q23 tK4) := rfl
theorem q63 : tK4 = .seq (hd1 tK4) (.cond (.tmp 117) q28 tK5) := rfl
theorem q64 : tK5 = .seq (hd1 tK5) (.cond (.tmp 143) qa3 tK6) := rfl
theorem q65 : tK6 = .seq (hd1 tK6) (.cond (.tmp 181) tMv tK7) := rfl
theorem q66 : tK7 = .seq (hd1 tK7) (.cond (.tmp 198) tAb tK8) := rfl
theorem q67 : tK8 = .seq (hd1 tK8) (.cond (.tmp 211) tLk .skip) := rfl
theorem qzp : qa3 = .seq (.region 24 R24 false) (tl1 qa3) := rfl
theorem qr2 (x : Nat → Value) : (SS x).size = 224 := by rw [qvp]; simp
theorem qpz (x : Nat → Value) (i : Nat) (h : i < (SS x).size) : (SS x)[i] = x i := by
 simp [qvp]
theorem q4r (x : Nat → Value) (j : Nat) (v : Value) : (SS x).setIfInBounds j v = SS (upd x j v) := by
 apply Array.ext
 ·simp [qr2]
 ·intro i h1 h2
  have h3 : i < (SS x).size := by simpa using h1
  rw [Array.getElem_setIfInBounds h3, qpz, qpz]
  unfold upd
  by_cases e : j = i
  ·subst e; simp
  ·rw [if_neg e, if_neg (fun h => e h.symm)]
theorem qfi (x : Nat → Value) {j : Nat} (h : j < 224) : (SS x).getD j undef = x j := by
 have h2 : j < (SS x).size := by rw [qr2]; exact h
 simp [Array.getD, h2, qpz]
section
variable {x : Nat → Value} {w : World} {ob pb : Nat} {c : Cst} {o : OpV} {v a b : Value}
def OpJ (x : Nat → Value) (w : World) (j : Nat) (v : Value) : Exit → Act → World → Prop := fun e a w' => e = .normal ∧ a = ⟨SS (upd x j v), []⟩ ∧ w' = w
noncomputable def qx7 : Oper := R24.getD 0 ⟨none, .alloc 0, 0, "", #[], none⟩
theorem jb3 (h : x 9 = .pointer (some ⟨pb, 0, none⟩)) : (Code.region 0 #[bare qx7] false).wp Tryz.prog (OpJ x w 146 (.pointer (some ⟨pb, 0, none⟩))) ⟨SS x, []⟩ w := by
 obtain ⟨x, rfl⟩ := ql h
 clear h
 unfold qx7 R24 qa3 tK5 tK4 tK3 tK2 tM tB SS
 simp only [Tryz.f15, Option.getD, hd1, tl1, c1, c2, blk, rg, bare, Array.getD, List.size_toArray, List.length_cons, List.length_nil, upd, Nat.reduceEqDiff, if_true, if_false]
 go_wp2
 exact ⟨rfl, rfl, rfl⟩
noncomputable def qx8 : Oper := R24.getD 1 ⟨none, .alloc 0, 0, "", #[], none⟩
theorem jb4 (h : x 146 = .pointer (some ⟨pb, 0, none⟩)) (hc : w.cell? ⟨pb, 0, none⟩ = some a) : (Code.region 0 #[bare qx8] false).wp Tryz.prog (OpJ x w 147 (a)) ⟨SS x, []⟩ w := by
 obtain ⟨x, rfl⟩ := ql h
 clear h
 unfold qx8 R24 qa3 tK5 tK4 tK3 tK2 tM tB SS
 simp only [Tryz.f15, Option.getD, hd1, tl1, c1, c2, blk, rg, bare, Array.getD, List.size_toArray, List.length_cons, List.length_nil, upd, Nat.reduceEqDiff, if_true, if_false]
 go_wp2
 exact ⟨rfl, rfl, rfl⟩
noncomputable def qx9 : Oper := R24.getD 2 ⟨none, .alloc 0, 0, "", #[], none⟩
theorem jb5 (h : x 3 = .pointer (some ⟨ob, 0, none⟩)) : (Code.region 0 #[bare qx9] false).wp Tryz.prog (OpJ x w 148 (.pointer (some ⟨ob, 7, none⟩))) ⟨SS x, []⟩ w := by
 obtain ⟨x, rfl⟩ := ql h
 clear h
 unfold qx9 R24 qa3 tK5 tK4 tK3 tK2 tM tB SS
 simp only [Tryz.f15, Option.getD, hd1, tl1, c1, c2, blk, rg, bare, Array.getD, List.size_toArray, List.length_cons, List.length_nil, upd, Nat.reduceEqDiff, if_true, if_false]
 go_wp2
 exact ⟨rfl, rfl, rfl⟩
noncomputable def qya : Oper := R24.getD 3 ⟨none, .alloc 0, 0, "", #[], none⟩
theorem jb6 (h : x 148 = .pointer (some ⟨ob, 7, none⟩)) (hc : w.cell? ⟨ob, 7, none⟩ = some a) : (Code.region 0 #[bare qya] false).wp Tryz.prog (OpJ x w 149 (a)) ⟨SS x, []⟩ w := by
 obtain ⟨x, rfl⟩ := ql h
 clear h
 unfold qya R24 qa3 tK5 tK4 tK3 tK2 tM tB SS
 simp only [Tryz.f15, Option.getD, hd1, tl1, c1, c2, blk, rg, bare, Array.getD, List.size_toArray, List.length_cons, List.length_nil, upd, Nat.reduceEqDiff, if_true, if_false]
 go_wp2
 exact ⟨rfl, rfl, rfl⟩
noncomputable def qyb : Oper := R24.getD 4 ⟨none, .alloc 0, 0, "", #[], none⟩
theorem jb7 (h : x 3 = .pointer (some ⟨ob, 0, none⟩)) : (Code.region 0 #[bare qyb] false).wp Tryz.prog (OpJ x w 150 (.pointer (some ⟨ob, 8, none⟩))) ⟨SS x, []⟩ w := by
 obtain ⟨x, rfl⟩ := ql h
 clear h
 unfold qyb R24 qa3 tK5 tK4 tK3 tK2 tM tB SS
 simp only [Tryz.f15, Option.getD, hd1, tl1, c1, c2, blk, rg, bare, Array.getD, List.size_toArray, List.length_cons, List.length_nil, upd, Nat.reduceEqDiff, if_true, if_false]
 go_wp2
 exact ⟨rfl, rfl, rfl⟩
noncomputable def qyc : Oper := R24.getD 5 ⟨none, .alloc 0, 0, "", #[], none⟩
theorem jb8 (h : x 150 = .pointer (some ⟨ob, 8, none⟩)) (hc : w.cell? ⟨ob, 8, none⟩ = some a) : (Code.region 0 #[bare qyc] false).wp Tryz.prog (OpJ x w 151 (a)) ⟨SS x, []⟩ w := by
 obtain ⟨x, rfl⟩ := ql h
 clear h
 unfold qyc R24 qa3 tK5 tK4 tK3 tK2 tM tB SS
 simp only [Tryz.f15, Option.getD, hd1, tl1, c1, c2, blk, rg, bare, Array.getD, List.size_toArray, List.length_cons, List.length_nil, upd, Nat.reduceEqDiff, if_true, if_false]
 go_wp2
 exact ⟨rfl, rfl, rfl⟩
noncomputable def qyd : Oper := R24.getD 6 ⟨none, .alloc 0, 0, "", #[], none⟩
theorem jb9 (h : x 3 = .pointer (some ⟨ob, 0, none⟩)) : (Code.region 0 #[bare qyd] false).wp Tryz.prog (OpJ x w 152 (.pointer (some ⟨ob, 2, none⟩))) ⟨SS x, []⟩ w := by
 obtain ⟨x, rfl⟩ := ql h
 clear h
 unfold qyd R24 qa3 tK5 tK4 tK3 tK2 tM tB SS
 simp only [Tryz.f15, Option.getD, hd1, tl1, c1, c2, blk, rg, bare, Array.getD, List.size_toArray, List.length_cons, List.length_nil, upd, Nat.reduceEqDiff, if_true, if_false]
 go_wp2
 exact ⟨rfl, rfl, rfl⟩
noncomputable def qye : Oper := R24.getD 7 ⟨none, .alloc 0, 0, "", #[], none⟩
theorem jca (h : x 152 = .pointer (some ⟨ob, 2, none⟩)) (hc : w.cell? ⟨ob, 2, none⟩ = some a) : (Code.region 0 #[bare qye] false).wp Tryz.prog (OpJ x w 153 (a)) ⟨SS x, []⟩ w := by
 obtain ⟨x, rfl⟩ := ql h
 clear h
 unfold qye R24 qa3 tK5 tK4 tK3 tK2 tM tB SS
 simp only [Tryz.f15, Option.getD, hd1, tl1, c1, c2, blk, rg, bare, Array.getD, List.size_toArray, List.length_cons, List.length_nil, upd, Nat.reduceEqDiff, if_true, if_false]
 go_wp2
 exact ⟨rfl, rfl, rfl⟩
noncomputable def qyf : Oper := R24.getD 9 ⟨none, .alloc 0, 0, "", #[], none⟩
theorem jcb (h : x 154 = .tuple #[a, b]) : (Code.region 0 #[bare qyf] false).wp Tryz.prog (OpJ x w 145 (.tuple #[a, b])) ⟨SS x, []⟩ w := by
 obtain ⟨x, rfl⟩ := ql h
 clear h
 unfold qyf R24 qa3 tK5 tK4 tK3 tK2 tM tB SS
 simp only [Tryz.f15, Option.getD, hd1, tl1, c1, c2, blk, rg, bare, Array.getD, List.size_toArray, List.length_cons, List.length_nil, upd, Nat.reduceEqDiff, if_true, if_false]
 go_wp2
 exact ⟨rfl, rfl, rfl⟩
noncomputable def qq6 : Oper := R24.getD 10 ⟨none, .alloc 0, 0, "", #[], none⟩
theorem q7f (h : x 145 = .tuple #[a, b]) : (Code.region 0 #[bare qq6] false).wp Tryz.prog (OpJ x w 155 (a)) ⟨SS x, []⟩ w := by
 obtain ⟨x, rfl⟩ := ql h
 clear h
 unfold qq6 R24 qa3 tK5 tK4 tK3 tK2 tM tB SS
 simp only [Tryz.f15, Option.getD, hd1, tl1, c1, c2, blk, rg, bare, Array.getD, List.size_toArray, List.length_cons, List.length_nil, upd, Nat.reduceEqDiff, if_true, if_false]
 go_wp2
 exact ⟨rfl, rfl, rfl⟩
noncomputable def qq7 : Oper := R24.getD 11 ⟨none, .alloc 0, 0, "", #[], none⟩
theorem q7g (h : x 145 = .tuple #[a, b]) : (Code.region 0 #[bare qq7] false).wp Tryz.prog (OpJ x w 156 (b)) ⟨SS x, []⟩ w := by
 obtain ⟨x, rfl⟩ := ql h
 clear h
 unfold qq7 R24 qa3 tK5 tK4 tK3 tK2 tM tB SS
 simp only [Tryz.f15, Option.getD, hd1, tl1, c1, c2, blk, rg, bare, Array.getD, List.size_toArray, List.length_cons, List.length_nil, upd, Nat.reduceEqDiff, if_true, if_false]
 go_wp2
 exact ⟨rfl, rfl, rfl⟩
noncomputable def qq8 : Oper := R24.getD 12 ⟨none, .alloc 0, 0, "", #[], none⟩
theorem q7h (h : x 155 = a) : (Code.region 0 #[bare qq8] false).wp Tryz.prog (OpJ x w 14 (a)) ⟨SS x, []⟩ w := by
 obtain ⟨x, rfl⟩ := ql h
 clear h
 unfold qq8 R24 qa3 tK5 tK4 tK3 tK2 tM tB SS
 simp only [Tryz.f15, Option.getD, hd1, tl1, c1, c2, blk, rg, bare, Array.getD, List.size_toArray, List.length_cons, List.length_nil, upd, Nat.reduceEqDiff, if_true, if_false]
 go_wp2
 exact ⟨rfl, rfl, rfl⟩
noncomputable def qq9 : Oper := R24.getD 13 ⟨none, .alloc 0, 0, "", #[], none⟩
theorem q7i (h : x 156 = a) : (Code.region 0 #[bare qq9] false).wp Tryz.prog (OpJ x w 15 (a)) ⟨SS x, []⟩ w := by
 obtain ⟨x, rfl⟩ := ql h
 clear h
 unfold qq9 R24 qa3 tK5 tK4 tK3 tK2 tM tB SS
 simp only [Tryz.f15, Option.getD, hd1, tl1, c1, c2, blk, rg, bare, Array.getD, List.size_toArray, List.length_cons, List.length_nil, upd, Nat.reduceEqDiff, if_true, if_false]
 go_wp2
 exact ⟨rfl, rfl, rfl⟩
end
theorem qy2 {w : World} {T : Array Value} : (results Tryz.f15 T).runT Tryz.prog w #[] = (.ok (T.getD 4 undef) w, #[]) := by
 have e : Tryz.f15.results = #[.tmp 4] := rfl
 simp [results, e, go_sem]
section
variable {N : Blocks} {kv : List Value} {ks cs1 : List Frame} {Z : Frame → World → Prop} {K : List Item} {x : Nat → Value} {w0 w w1 w2 : World} {n0 W n ob pb k : Nat} {cs : List Cst} {c : Cst} {o : OpV}
theorem qgc (h : je n0 w W n cs w1) (s : Same w1 w2) : je n0 w W n cs w2 := by
 obtain ⟨n', cs', h1, h2, h3, h4, h5⟩ := h
 exact ⟨n', cs', h1.idle (But.same' s), h2, h3, h4, h5.trans (But.same' s)⟩
theorem qf.qiq {c : Code} (hok : codeOk XG.P XG.P fb true c = true) (hpre : But (fun b => n0 ≤ b) w0 w) (hp : ∀ wc, Same w wc → c.wp Tryz.prog (qgu (je n0 wc W n cs)) ⟨SS x, []⟩ wc) :
  qf N kv ks (bT.at ⟨SS x, []⟩ (.code c :: K)) w ks (Ret fT fun v w' => v = .bool true ∧ je n0 w0 W n cs w') := by
 refine qf.code rfl (Q := qgu (je n0 w0 W n cs)) hok (fun e a w h => by cases e <;> first | trivial | exact h) (fun e a w1 wc s h => by cases e <;> first | exact h.elim | exact ⟨h.1, h.2.1, qgc h.2.2 s⟩) (fun wc hs => ?_) ?_
 ·refine Code.wp_mono (fun e a w1 h => ?_) (hp wc hs)
  cases e <;> first | exact h | exact ⟨h.1, h.2.1, h.2.2.pre (hpre.trans (But.same' hs))⟩
 intro e a w2 fr hq hl
 cases e <;> first | exact hq.elim | skip
 obtain ⟨h4, hd, hP⟩ := hq
 obtain ⟨todo, rfl⟩ := hl
 exact qf.done fun wc hs => ⟨rfl, _, ⟨rfl, hd, rfl, _, Tryz.func15, fun w => by
  have := qy2 (w := w) (T := a.tmps)
  rw [h4] at this
  exact this⟩, fun ρ _ => .bool true, rfl, qgc hP hs⟩
theorem qf.jn {c : Code} {R : (Nat → Value) → World → Prop} (hok : codeOk XG.P XG.P fb true c = true) (hR : ∀ x w wc, Same w wc → R x w → R x wc) (hp : ∀ wc, Same w wc → c.wp Tryz.prog (Jn R) ⟨SS x, []⟩ wc)
  (nx : ∀ x' w', R x' w' → qf N kv ks (bT.at ⟨SS x', []⟩ K) w' cs1 Z) : qf N kv ks (bT.at ⟨SS x, []⟩ (.code c :: K)) w cs1 Z := by
 refine qf.code rfl (Q := Jn R) hok (fun e a w h => by cases e <;> first | trivial | exact h) (fun e a w1 wc s h => by cases e <;> first | exact h.elim | exact ⟨h.choose, h.choose_spec.1, hR _ _ _ s h.choose_spec.2⟩) hp ?_
 intro e a w2 fr hq hl
 cases e <;> first | exact hq.elim | skip
 obtain ⟨x', rfl, hr⟩ := hq
 cases hl
 exact nx x' w2 hr
theorem Jn.mono {R R' : (Nat → Value) → World → Prop} (h : ∀ x w, R x w → R' x w) {e : Exit} {a : Act} {w : World} (q : Jn R e a w) : Jn R' e a w := by
 cases e <;> first | exact q | exact ⟨q.choose, q.choose_spec.1, h _ _ q.choose_spec.2⟩
theorem qf.opj {i j : Nat} {td : List Nat} {o : Oper} {v : Value} (ho : R24[i]? = some o) (hg : o.guard = none) (hok : qa0 XG.P XG.P fb true (bare o) = true) (hp : ∀ wc, Same w wc → (Code.region 0 #[bare o] false).wp Tryz.prog (OpJ x wc j v) ⟨SS x, []⟩ wc)
  (nx : ∀ w', Same w w' → qf N kv ks (bT.at ⟨SS (upd x j v), []⟩ (.inRegion R24 td :: K)) w' cs1 Z) : qf N kv ks (bT.at ⟨SS x, []⟩ (.inRegion R24 (i :: td) :: K)) w cs1 Z := by
 refine qf.op rfl (Q := fun a w' => a = ⟨SS (upd x j v), []⟩ ∧ Same w w') 0 ho hok (by unfold Region.wanted; rw [hg]) (fun a w1 wc s h => ⟨h.1, h.2.trans s⟩) (fun wc hs => Code.wp_mono (fun e a w1 h => ⟨h.1, h.2.1, ?_⟩) (hp wc hs)) ?_
 ·rw [h.2.2]; exact hs
 rintro _ w' ⟨rfl, hs⟩
 exact nx w' hs
theorem q0o {L : Nat → KV} {f : Bs × Bs → Bool} (h : ∀ i, i < 4 → (L i).length ≤ 12) : (cat L f 4).length ≤ 48 := by
 have key : ∀ i, i < 4 → ((L i).filter f).length ≤ 12 := fun i hi => xlt (List.length_filter_le _ _) (h i hi)
 have h0 := key 0 (by decide)
 have h1 := key 1 (by decide)
 have h2 := key 2 (by decide)
 have h3 := key 3 (by decide)
 simp only [cat, List.length_append, List.length_nil]
 omega
theorem qzd (h : SwW n0 w W n cs ob pb k o c) (hb : -9223372036854775808 ≤ o.b ∧ o.b ≤ 9223372036854775807) (hN : ∀ b, N b → b < w.heap.size) :
  yu N kv fS #[.pointer (some ⟨c.A.cl, 0, none⟩), .string o.s, .string o.t, .int .i64 o.b] w fun v w' =>
   ∃ ov er l, v = .tuple #[ov, .int .i64 er] ∧ w'.ownsRow w.heap.size 74 2 ov l.length (flat l) ∧ l.length ≤ 48 ∧ But (fun _ => False) w w' ∧ ∀ w1, SwW n0 w1 W n cs ob pb k o c → qmm w1 c o l er := by
 rcases Int.lt_or_le o.b 0 with hneg | hpos
 ·refine (q2m hneg).mono ?_
  rintro v w' ⟨rfl, h1, h2, h3, h4⟩
  refine ⟨_, _, [], rfl, World.ownsRow_nil _ _ _ _, by simp, ⟨h2, fun b hb _ => h1 b hb, h3, h4⟩, fun w1 hw1 => ?_⟩
  refine (qy7 o.s o.t o.b hneg).mono ?_
  rintro e w2 ⟨rfl, rfl⟩
  exact ⟨_, 0, rfl, World.ownsRow_nil _ _ _ _, jo _ _⟩
 ·obtain ⟨m, hm⟩ : ∃ m : Nat, o.b = m := ⟨o.b.toNat, by omega⟩
  rw [hm]
  have hm2 : m ≤ 9223372036854775807 := by omega
  refine (qze (h.cst.p.clu h.ok.len) (fun i hi => (h.cst.p.db i hi).2) h.ok.ris h.ok.key hm2 hN).mono ?_
  rintro v w' ⟨ov, rfl, h1, h2, h3, h4, h5⟩
  refine ⟨ov, _, _, rfl, h1, xlt (by rw [List.length_take]; exact Nat.min_le_right _ _) (q0o h.ok.len), ⟨h3, fun b hb _ => h2 b hb, h4, h5⟩, fun w1 hw1 => ?_⟩
  unfold qmm
  rw [hm]
  refine (quk hw1.cst.m.mdl hw1.okt.len o.s o.t hm2).mono ?_
  rintro e w2 ⟨v', rfl, hr, hbb⟩
  refine ⟨v', w1.heap.size, rfl, ?_, hbb⟩
  rw [← hw1.e] at hr
  exact hr.1
theorem q48 {pc pm : Value} {a b : Value} (h1 : x 147 = pc) (h2 : x 149 = a) (h3 : x 151 = b) (h4 : x 153 = pm) : ∀ w, (execOp (Act.mk (SS x) []).eval (R24.getD 8 ⟨none, .alloc 0, 0, "", #[], none⟩)).run XG.P w = .ok (.enter fS #[pc, a, b, pm]) w ∧ (execOp (Act.mk (SS x) []).eval (R24.getD 8 ⟨none, .alloc 0, 0, "", #[], none⟩)).events XG.P w #[] = #[] := by
 intro w
 have b1 : (Act.mk (SS x) []).eval (.tmp 147) = pc := (qfi x (by decide)).trans h1
 have b2 : (Act.mk (SS x) []).eval (.tmp 149) = a := (qfi x (by decide)).trans h2
 have b3 : (Act.mk (SS x) []).eval (.tmp 151) = b := (qfi x (by decide)).trans h3
 have b4 : (Act.mk (SS x) []).eval (.tmp 153) = pm := (qfi x (by decide)).trans h4
 have b5 : (Act.mk (SS x) []).eval (.func fS) = .func (.func fS) #[] #[] := rfl
 obtain ⟨ty, hop⟩ : ∃ ty, (R24.getD 8 ⟨none, .alloc 0, 0, "", #[], none⟩).op = .call { callee := .value (.func fS), args := #[.tmp 147, .tmp 149, .tmp 151, .tmp 153], argTypes := ty } := ⟨_, rfl⟩
 show (execOp _ _).run Tryz.prog w = _ ∧ (execOp _ _).events Tryz.prog w #[] = _
 have hf := Tryz.func27
 generalize (R24.getD 8 ⟨none, .alloc 0, 0, "", #[], none⟩) = o at *
 generalize (Act.mk (SS x) []).eval = e at *
 have hx : execOp e o = callFunc fS #[pc, a, b, pm] := by unfold execOp; simp [go_sem, hop, resolve, invoke, b1, b2, b3, b4, b5]
 rw [hx]
 constructor
 ·simp [callFunc, go_sem, hf, Tryz.f27]
 ·simp [callFunc, go_sem, hf, Tryz.f27]
end
def lkO (s : St) (j i : Nat) : Int := if i < j then s.ow i else 0
def lkM (s : St) (j i : Nat) : Bool := if i < j then (s.mv i).isSome else false
def lkS (s : St) (j i : Nat) : Bool := if i < j then qab (s.mv i) else false
def qcb (s : St) (j : Nat) : Array Value := #[.int .i64 s.ep, .int .i64 (lkO s j 0), .int .i64 (lkO s j 1), .int .i64 (lkO s j 2), .int .i64 (lkO s j 3), .bool (lkM s j 0), .bool (lkM s j 1), .bool (lkM s j 2), .bool (lkM s j 3), .bool (lkS s j 0), .bool (lkS s j 1), .bool (lkS s j 2), .bool (lkS s j 3)]
section
variable {w w' : World} {F : Nat → Prop} {A : PA} {s : St}
theorem qq0 (s : St) : ∀ j, j < 4 → (((qcb s j).setIfInBounds (1 + j) (.int .i64 (s.ow j))).setIfInBounds (5 + j) (.bool (s.mv j).isSome)).setIfInBounds (9 + j) (.bool (qab (s.mv j))) = qcb s (j + 1)
 |0, _ => rfl
 |1, _ => rfl
 |2, _ => rfl
 |3, _ => rfl
 |j + 4, h => absurd h (by omega)
theorem qtw (a0 a1 a2 a3 a4 a5 a6 a7 a8 a9 a10 a11 : Value) (W : World) : (Instr.index 81 (.agg #[a0, a1, a2, a3, a4, a5, a6, a7, a8, a9, a10, a11]) (.int .i64 0)).run Tryz.prog W = .ok (.agg #[a0, a1, a2]) W := by
 have hu := Tryz.underlying81
 have hS := Tryz.sizeOf80
 have hA := Tryz.isAgg80
 simp [Instr.index, part, go_sem, hu, hS, hA]
theorem qtx (a0 a1 a2 a3 a4 a5 a6 a7 a8 a9 a10 a11 : Value) (W : World) : (Instr.index 81 (.agg #[a0, a1, a2, a3, a4, a5, a6, a7, a8, a9, a10, a11]) (.int .i64 1)).run Tryz.prog W = .ok (.agg #[a3, a4, a5]) W := by
 have hu := Tryz.underlying81
 have hS := Tryz.sizeOf80
 have hA := Tryz.isAgg80
 simp [Instr.index, part, go_sem, hu, hS, hA]
theorem qty (a0 a1 a2 a3 a4 a5 a6 a7 a8 a9 a10 a11 : Value) (W : World) : (Instr.index 81 (.agg #[a0, a1, a2, a3, a4, a5, a6, a7, a8, a9, a10, a11]) (.int .i64 2)).run Tryz.prog W = .ok (.agg #[a6, a7, a8]) W := by
 have hu := Tryz.underlying81
 have hS := Tryz.sizeOf80
 have hA := Tryz.isAgg80
 simp [Instr.index, part, go_sem, hu, hS, hA]
theorem qtz (a0 a1 a2 a3 a4 a5 a6 a7 a8 a9 a10 a11 : Value) (W : World) : (Instr.index 81 (.agg #[a0, a1, a2, a3, a4, a5, a6, a7, a8, a9, a10, a11]) (.int .i64 3)).run Tryz.prog W = .ok (.agg #[a9, a10, a11]) W := by
 have hu := Tryz.underlying81
 have hS := Tryz.sizeOf80
 have hA := Tryz.isAgg80
 simp [Instr.index, part, go_sem, hu, hS, hA]
structure LkW (w0 : World) (s : St) (rb lb j : Nat) (w : World) : Prop where
 b : w.heap[lb]? = some (.cells (qcb s j) 70 (0, 0))
 r : w.heap[rb]? = some (.cells #[.int .i64 0, .int .i64 0, .int .i64 0, .int .i64 0, .int .i64 0, .bool false, .bool false, .bool false, .bool false, .bool false, .bool false, .bool false, .bool false] 70 (0, 0))
 lo : w0.heap.size ≤ rb
 ne : rb < lb
 below : Below w0.heap.size w0 w
theorem LkW.lt {rb lb j : Nat} (h : LkW w s rb lb j w') : lb < w'.heap.size := (zx h.b).1
theorem LkW.cell {rb lb j : Nat} (h : LkW w s rb lb j w') (k : Nat) (v : Value) (hv : (qcb s j)[k]? = some v) : w'.cell? ⟨lb, k, none⟩ = some v ∧ w'.frozen? ⟨lb, k, none⟩ = false := ⟨by simp [World.cell?, h.b, hv], by simp [World.frozen?, h.b]⟩
theorem LkW.next {rb lb j : Nat} (h : LkW w s rb lb j w') (hj : j < 4) (o : Obj) : LkW w s rb lb (j + 1) ((((w'.setCell ⟨lb, 1 + j, none⟩ (.int .i64 (s.ow j))).setCell ⟨lb, 5 + j, none⟩ (.bool (s.mv j).isSome)).setCell ⟨lb, 9 + j, none⟩ (.bool (qab (s.mv j)))).alloc o) := by
 have s1 := xhs w' lb (1 + j) _ _ (.int .i64 (s.ow j)) h.b
 have s2 := xhs _ lb (5 + j) _ _ (.bool (s.mv j).isSome) s1
 have s3 := xhs _ lb (9 + j) _ _ (.bool (qab (s.mv j))) s2
 have hlo := h.lo
 have hne := h.ne
 have hlt := h.lt
 have hbl := ((h.below.setCell (by show w.heap.size ≤ lb; omega) (.int .i64 (s.ow j)) (p := ⟨lb, 1 + j, none⟩)).setCell (by show w.heap.size ≤ lb; omega) (.bool (s.mv j).isSome) (p := ⟨lb, 5 + j, none⟩)).setCell (by show w.heap.size ≤ lb; omega) (.bool (qab (s.mv j))) (p := ⟨lb, 9 + j, none⟩)
 refine ⟨?_, ?_, h.lo, h.ne, hbl.alloc hbl.size o⟩
 ·rw [heap_alloc_old _ o (by simpa using hlt), s3, qq0 s j hj]
 ·have hn : rb ≠ lb := by omega
  rw [heap_alloc_old _ o (by simp; omega), xho _ _ _ _ hn, xho _ _ _ _ hn, xho _ _ _ _ hn]
  exact h.r
theorem q18 (h : PAt w F A s) : Calls Tryz.prog 35 #[.pointer (some ⟨A.cl, 0, none⟩)] w fun e w' => e = .returned (.agg (qcb s 4)) ∧ Below w.heap.size w w' := by
 have H := Lib.hid h
 have cl := fun j v hj => (h.cells j v hj).1
 have d0 : w.cell? ⟨A.cl, 1, none⟩ = some (.int .i64 (s.ow 0)) := cl 1 _ rfl
 have d1 : w.cell? ⟨A.cl, 2, none⟩ = some (.pointer (some ⟨A.db 0, 0, none⟩)) := cl 2 _ rfl
 have d2 : w.cell? ⟨A.cl, 3, none⟩ = some (.pointer (mpA (A.mp 0))) := by rw [← qkg]; exact cl 3 _ rfl
 have d3 : w.cell? ⟨A.cl, 4, none⟩ = some (.int .i64 (s.ow 1)) := cl 4 _ rfl
 have d4 : w.cell? ⟨A.cl, 5, none⟩ = some (.pointer (some ⟨A.db 1, 0, none⟩)) := cl 5 _ rfl
 have d5 : w.cell? ⟨A.cl, 6, none⟩ = some (.pointer (mpA (A.mp 1))) := by rw [← qkg]; exact cl 6 _ rfl
 have d6 : w.cell? ⟨A.cl, 7, none⟩ = some (.int .i64 (s.ow 2)) := cl 7 _ rfl
 have d7 : w.cell? ⟨A.cl, 8, none⟩ = some (.pointer (some ⟨A.db 2, 0, none⟩)) := cl 8 _ rfl
 have d8 : w.cell? ⟨A.cl, 9, none⟩ = some (.pointer (mpA (A.mp 2))) := by rw [← qkg]; exact cl 9 _ rfl
 have d9 : w.cell? ⟨A.cl, 10, none⟩ = some (.int .i64 (s.ow 3)) := cl 10 _ rfl
 have d10 : w.cell? ⟨A.cl, 11, none⟩ = some (.pointer (some ⟨A.db 3, 0, none⟩)) := cl 11 _ rfl
 have d11 : w.cell? ⟨A.cl, 12, none⟩ = some (.pointer (mpA (A.mp 3))) := by rw [← qkg]; exact cl 12 _ rfl
 have d15 : w.cell? ⟨A.cl, 15, none⟩ = some (.int .i64 s.ep) := cl 15 _ rfl
 have hlt := h.clt
 clear h cl
 go_enter Tryz.func35, Tryz.ntmps35
 go_wp2
 go_loopw [15] (fun x wr => ∃ j : Nat, j ≤ 4 ∧ x = .int .i64 j ∧ Hid (LkW w s w.heap.size (w.heap.size + 1) j wr)) (fun x _ => 4 - (intOf x).toNat)
 case atStart =>
  refine ⟨0, by omega, rfl, Lib.hid ⟨?_, ?_, jy _, by omega, ((jo _ _).alloc (jy _) _).alloc (by simp) _⟩⟩
  ·exact heap_alloc_new' _ _ (by simp)
  ·rw [heap_alloc_old _ _ (by simp)]
   exact heap_alloc_new' _ _ rfl
 case round =>
  obtain ⟨j, hj, rfl, HL⟩ := hrel
  have HLT := HL.out.lt
  rcases (show j = 0 ∨ j = 1 ∨ j = 2 ∨ j = 3 ∨ j = 4 by omega) with rfl | rfl | rfl | rfl | rfl
  ·have hm := H.out.mv 0 (by decide)
   obtain ⟨q1, f1⟩ := HL.out.cell 1 _ rfl
   obtain ⟨q2, f2⟩ := HL.out.cell 5 _ rfl
   obtain ⟨q3, f3⟩ := HL.out.cell 9 _ rfl
   have HX := Lib.hid (HL.out.next (by decide))
   have hix := qtw
   cases hmv : s.mv 0 with
   |none =>
    rw [hmv] at hm
    rw [hmv] at HX
    rw [show mpA (A.mp 0) = none by rw [hm.1]; rfl]
    clear hm hmv
    go_wp2
    go_roundw
    case rel => exact ⟨1, by omega, rfl, Lib.hid (HX.out _)⟩
    case measure => simp [intOf]
   |some m =>
    rw [hmv] at hm
    rw [hmv] at HX
    obtain ⟨x, z1, z2, z3, _⟩ := hm
    rw [show mpA (A.mp 0) = some ⟨x, 0, none⟩ by rw [z1]; rfl]
    have zl : x < w.heap.size := (zx z3).1
    have zs : wr.cell? ⟨x, 12, none⟩ = some (.bool m.sealed) := (HL.out.below.cell (p := ⟨x, 12, none⟩) zl).trans (by simp [World.cell?, z3, j3])
    have zn : x < wr.heap.size := xll zl HL.out.below.size
    have zne : x ≠ w.heap.size + 1 := by omega
    have HY : Hid (qab (some m) = m.sealed) := Lib.hid rfl
    clear z1 z2 z3 hmv
    go_wp2
    go_roundw
    case rel => exact ⟨1, by omega, rfl, Lib.hid (HX.out _)⟩
    case measure => simp [intOf]
  ·have hm := H.out.mv 1 (by decide)
   obtain ⟨q1, f1⟩ := HL.out.cell 2 _ rfl
   obtain ⟨q2, f2⟩ := HL.out.cell 6 _ rfl
   obtain ⟨q3, f3⟩ := HL.out.cell 10 _ rfl
   have HX := Lib.hid (HL.out.next (by decide))
   have hix := qtx
   cases hmv : s.mv 1 with
   |none =>
    rw [hmv] at hm
    rw [hmv] at HX
    rw [show mpA (A.mp 1) = none by rw [hm.1]; rfl]
    clear hm hmv
    go_wp2
    go_roundw
    case rel => exact ⟨2, by omega, rfl, Lib.hid (HX.out _)⟩
    case measure => simp [intOf]
   |some m =>
    rw [hmv] at hm
    rw [hmv] at HX
    obtain ⟨x, z1, z2, z3, _⟩ := hm
    rw [show mpA (A.mp 1) = some ⟨x, 0, none⟩ by rw [z1]; rfl]
    have zl : x < w.heap.size := (zx z3).1
    have zs : wr.cell? ⟨x, 12, none⟩ = some (.bool m.sealed) := (HL.out.below.cell (p := ⟨x, 12, none⟩) zl).trans (by simp [World.cell?, z3, j3])
    have zn : x < wr.heap.size := xll zl HL.out.below.size
    have zne : x ≠ w.heap.size + 1 := by omega
    have HY : Hid (qab (some m) = m.sealed) := Lib.hid rfl
    clear z1 z2 z3 hmv
    go_wp2
    go_roundw
    case rel => exact ⟨2, by omega, rfl, Lib.hid (HX.out _)⟩
    case measure => simp [intOf]
  ·have hm := H.out.mv 2 (by decide)
   obtain ⟨q1, f1⟩ := HL.out.cell 3 _ rfl
   obtain ⟨q2, f2⟩ := HL.out.cell 7 _ rfl
   obtain ⟨q3, f3⟩ := HL.out.cell 11 _ rfl
   have HX := Lib.hid (HL.out.next (by decide))
   have hix := qty
   cases hmv : s.mv 2 with
   |none =>
    rw [hmv] at hm
    rw [hmv] at HX
    rw [show mpA (A.mp 2) = none by rw [hm.1]; rfl]
    clear hm hmv
    go_wp2
    go_roundw
    case rel => exact ⟨3, by omega, rfl, Lib.hid (HX.out _)⟩
    case measure => simp [intOf]
   |some m =>
    rw [hmv] at hm
    rw [hmv] at HX
    obtain ⟨x, z1, z2, z3, _⟩ := hm
    rw [show mpA (A.mp 2) = some ⟨x, 0, none⟩ by rw [z1]; rfl]
    have zl : x < w.heap.size := (zx z3).1
    have zs : wr.cell? ⟨x, 12, none⟩ = some (.bool m.sealed) := (HL.out.below.cell (p := ⟨x, 12, none⟩) zl).trans (by simp [World.cell?, z3, j3])
    have zn : x < wr.heap.size := xll zl HL.out.below.size
    have zne : x ≠ w.heap.size + 1 := by omega
    have HY : Hid (qab (some m) = m.sealed) := Lib.hid rfl
    clear z1 z2 z3 hmv
    go_wp2
    go_roundw
    case rel => exact ⟨3, by omega, rfl, Lib.hid (HX.out _)⟩
    case measure => simp [intOf]
  ·have hm := H.out.mv 3 (by decide)
   obtain ⟨q1, f1⟩ := HL.out.cell 4 _ rfl
   obtain ⟨q2, f2⟩ := HL.out.cell 8 _ rfl
   obtain ⟨q3, f3⟩ := HL.out.cell 12 _ rfl
   have HX := Lib.hid (HL.out.next (by decide))
   have hix := qtz
   cases hmv : s.mv 3 with
   |none =>
    rw [hmv] at hm
    rw [hmv] at HX
    rw [show mpA (A.mp 3) = none by rw [hm.1]; rfl]
    clear hm hmv
    go_wp2
    go_roundw
    case rel => exact ⟨4, by omega, rfl, Lib.hid (HX.out _)⟩
    case measure => simp [intOf]
   |some m =>
    rw [hmv] at hm
    rw [hmv] at HX
    obtain ⟨x, z1, z2, z3, _⟩ := hm
    rw [show mpA (A.mp 3) = some ⟨x, 0, none⟩ by rw [z1]; rfl]
    have zl : x < w.heap.size := (zx z3).1
    have zs : wr.cell? ⟨x, 12, none⟩ = some (.bool m.sealed) := (HL.out.below.cell (p := ⟨x, 12, none⟩) zl).trans (by simp [World.cell?, z3, j3])
    have zn : x < wr.heap.size := xll zl HL.out.below.size
    have zne : x ≠ w.heap.size + 1 := by omega
    have HY : Hid (qab (some m) = m.sealed) := Lib.hid rfl
    clear z1 z2 z3 hmv
    go_wp2
    go_roundw
    case rel => exact ⟨4, by omega, rfl, Lib.hid (HX.out _)⟩
    case measure => simp [intOf]
  ·have k0 : wr.cell? ⟨w.heap.size + 1, 0, none⟩ = some (.int .i64 s.ep) := (HL.out.cell 0 _ rfl).1
   have k1 : wr.cell? ⟨w.heap.size + 1, 1, none⟩ = some (.int .i64 (lkO s 4 0)) := (HL.out.cell 1 _ rfl).1
   have k2 : wr.cell? ⟨w.heap.size + 1, 2, none⟩ = some (.int .i64 (lkO s 4 1)) := (HL.out.cell 2 _ rfl).1
   have k3 : wr.cell? ⟨w.heap.size + 1, 3, none⟩ = some (.int .i64 (lkO s 4 2)) := (HL.out.cell 3 _ rfl).1
   have k4 : wr.cell? ⟨w.heap.size + 1, 4, none⟩ = some (.int .i64 (lkO s 4 3)) := (HL.out.cell 4 _ rfl).1
   have k5 : wr.cell? ⟨w.heap.size + 1, 5, none⟩ = some (.bool (lkM s 4 0)) := (HL.out.cell 5 _ rfl).1
   have k6 : wr.cell? ⟨w.heap.size + 1, 6, none⟩ = some (.bool (lkM s 4 1)) := (HL.out.cell 6 _ rfl).1
   have k7 : wr.cell? ⟨w.heap.size + 1, 7, none⟩ = some (.bool (lkM s 4 2)) := (HL.out.cell 7 _ rfl).1
   have k8 : wr.cell? ⟨w.heap.size + 1, 8, none⟩ = some (.bool (lkM s 4 3)) := (HL.out.cell 8 _ rfl).1
   have k9 : wr.cell? ⟨w.heap.size + 1, 9, none⟩ = some (.bool (lkS s 4 0)) := (HL.out.cell 9 _ rfl).1
   have k10 : wr.cell? ⟨w.heap.size + 1, 10, none⟩ = some (.bool (lkS s 4 1)) := (HL.out.cell 10 _ rfl).1
   have k11 : wr.cell? ⟨w.heap.size + 1, 11, none⟩ = some (.bool (lkS s 4 2)) := (HL.out.cell 11 _ rfl).1
   have k12 : wr.cell? ⟨w.heap.size + 1, 12, none⟩ = some (.bool (lkS s 4 3)) := (HL.out.cell 12 _ rfl).1
   have r0 : wr.cell? ⟨w.heap.size, 0, none⟩ = some (.int .i64 0) := by simp [World.cell?, HL.out.r]
   have r1 : wr.cell? ⟨w.heap.size, 1, none⟩ = some (.int .i64 0) := by simp [World.cell?, HL.out.r]
   have r2 : wr.cell? ⟨w.heap.size, 2, none⟩ = some (.int .i64 0) := by simp [World.cell?, HL.out.r]
   have r3 : wr.cell? ⟨w.heap.size, 3, none⟩ = some (.int .i64 0) := by simp [World.cell?, HL.out.r]
   have r4 : wr.cell? ⟨w.heap.size, 4, none⟩ = some (.int .i64 0) := by simp [World.cell?, HL.out.r]
   have r5 : wr.cell? ⟨w.heap.size, 5, none⟩ = some (.bool false) := by simp [World.cell?, HL.out.r]
   have r6 : wr.cell? ⟨w.heap.size, 6, none⟩ = some (.bool false) := by simp [World.cell?, HL.out.r]
   have r7 : wr.cell? ⟨w.heap.size, 7, none⟩ = some (.bool false) := by simp [World.cell?, HL.out.r]
   have r8 : wr.cell? ⟨w.heap.size, 8, none⟩ = some (.bool false) := by simp [World.cell?, HL.out.r]
   have r9 : wr.cell? ⟨w.heap.size, 9, none⟩ = some (.bool false) := by simp [World.cell?, HL.out.r]
   have r10 : wr.cell? ⟨w.heap.size, 10, none⟩ = some (.bool false) := by simp [World.cell?, HL.out.r]
   have r11 : wr.cell? ⟨w.heap.size, 11, none⟩ = some (.bool false) := by simp [World.cell?, HL.out.r]
   have r12 : wr.cell? ⟨w.heap.size, 12, none⟩ = some (.bool false) := by simp [World.cell?, HL.out.r]
   have fr : ∀ q, wr.frozen? ⟨w.heap.size, q, none⟩ = false := fun q => by simp [World.frozen?, HL.out.r]
   have rlt : w.heap.size < wr.heap.size := by have := HL.out.lt; omega
   go_wp2
   refine bodyPost_ret (v := .agg (qcb s 4)) (by simp [results, Tryz.results35, go_sem, qcb, fr, rlt, r0, r1, r2, r3, r4, r5, r6, r7, r8, r9, r10, r11, r12]) rfl ⟨rfl, ?_⟩
   iterate 13 refine Below.setCell ?_ (by exact jy _) _
   exact HL.out.below
end
section
variable {w w' : World} {G : Nat → Prop} {B : MA} {s : St} {rb lb j : Nat}
theorem qqz (s : St) : ∀ j, j < 4 → (qcb s j)[1 + j]? = some (.int .i64 (lkO s j j)) ∧ (qcb s j)[5 + j]? = some (.bool (lkM s j j)) ∧ (qcb s j)[9 + j]? = some (.bool (lkS s j j))
 |0, _ => ⟨rfl, rfl, rfl⟩
 |1, _ => ⟨rfl, rfl, rfl⟩
 |2, _ => ⟨rfl, rfl, rfl⟩
 |3, _ => ⟨rfl, rfl, rfl⟩
 |j + 4, h => absurd h (by omega)
theorem q03 (h : MAt w G B s) : Calls Tryz.prog 36 #[.pointer (some ⟨B.ml, 0, none⟩)] w fun e w' => e = .returned (.agg (qcb s 4)) ∧ Below w.heap.size w w' := by
 have H := Lib.hid h
 have c1 : w.cell? ⟨B.ml, 1, none⟩ = some (.slice (some ⟨B.sb, 0, none⟩) 4 B.cap) := (h.cells 1 _ rfl).1
 have c4 : w.cell? ⟨B.ml, 4, none⟩ = some (.int .i64 s.ep) := (h.cells 4 _ rfl).1
 have hlt : B.ml < w.heap.size := h.lts.ml.1.2
 have HSB := Lib.hid h.q2k
 clear h
 go_enter Tryz.func36, Tryz.ntmps36
 go_wp2
 go_loopw [16] (fun x wr => ∃ j : Nat, j ≤ 4 ∧ x = .int .i64 j ∧ Hid (LkW w s w.heap.size (w.heap.size + 1) j wr)) (fun x _ => 4 - (intOf x).toNat)
 case atStart =>
  refine ⟨0, by omega, rfl, Lib.hid ⟨?_, ?_, jy _, by omega, ((jo _ _).alloc (jy _) _).alloc (by simp) _⟩⟩
  ·exact heap_alloc_new' _ _ (by simp)
  ·rw [heap_alloc_old _ _ (by simp)]
   exact heap_alloc_new' _ _ rfl
 case round =>
  obtain ⟨j, hj, rfl, HL⟩ := hrel
  have HLT := HL.out.lt
  by_cases hj4 : j < 4
  ·have hm := H.out.mv j hj4
   have M1 := H.out.below HL.out.below
   obtain ⟨p0, p1, p2, _⟩ := M1.sbc hj4
   obtain ⟨sl, cp, hv⟩ := qb0 (M1.r j hj4).1
   rw [hv] at p1
   have hj3 : ((j : Int) < 4) := by omega
   obtain ⟨l1, l2, l3⟩ := qqz s j hj4
   obtain ⟨q1, f1⟩ := HL.out.cell (1 + j) _ l1
   obtain ⟨q2, f2⟩ := HL.out.cell (5 + j) _ l2
   obtain ⟨q3, f3⟩ := HL.out.cell (9 + j) _ l3
   have HX := Lib.hid (fun o => HL.out.next hj4 o)
   have zlb : B.sb < wr.heap.size := xll HSB.out HL.out.below.size
   clear l1 l2 l3 M1 hv
   cases hmv : s.mv j with
   |none =>
    rw [hmv] at hm
    rw [hmv] at HX
    rw [hm.1] at p2
    replace p2 : wr.cell? ⟨B.sb, j * 3 + 2, none⟩ = some (.pointer none) := p2
    clear hm hmv
    go_wp2
    go_roundw
    case rel => exact ⟨j + 1, by omega, rfl, Lib.hid (HX.out _)⟩
    case measure => simp [intOf]; omega
   |some m =>
    rw [hmv] at hm
    rw [hmv] at HX
    obtain ⟨x, z1, z2, z3, _⟩ := hm
    rw [z1] at p2
    replace p2 : wr.cell? ⟨B.sb, j * 3 + 2, none⟩ = some (.pointer (some ⟨x, 0, none⟩)) := p2
    have zl : x < w.heap.size := (zx z3).1
    have zs : wr.cell? ⟨x, 9, none⟩ = some (.bool m.sealed) := (HL.out.below.cell (p := ⟨x, 9, none⟩) zl).trans (by simp [World.cell?, z3, j5])
    have zn : x < wr.heap.size := xll zl HL.out.below.size
    have zne : x ≠ w.heap.size + 1 := by omega
    clear z1 z2 z3 hmv
    go_wp2
    go_roundw
    case rel => exact ⟨j + 1, by omega, rfl, Lib.hid (HX.out _)⟩
    case measure => simp [intOf]; omega
  ·obtain rfl : j = 4 := by omega
   have k0 : wr.cell? ⟨w.heap.size + 1, 0, none⟩ = some (.int .i64 s.ep) := (HL.out.cell 0 _ rfl).1
   have k1 : wr.cell? ⟨w.heap.size + 1, 1, none⟩ = some (.int .i64 (lkO s 4 0)) := (HL.out.cell 1 _ rfl).1
   have k2 : wr.cell? ⟨w.heap.size + 1, 2, none⟩ = some (.int .i64 (lkO s 4 1)) := (HL.out.cell 2 _ rfl).1
   have k3 : wr.cell? ⟨w.heap.size + 1, 3, none⟩ = some (.int .i64 (lkO s 4 2)) := (HL.out.cell 3 _ rfl).1
   have k4 : wr.cell? ⟨w.heap.size + 1, 4, none⟩ = some (.int .i64 (lkO s 4 3)) := (HL.out.cell 4 _ rfl).1
   have k5 : wr.cell? ⟨w.heap.size + 1, 5, none⟩ = some (.bool (lkM s 4 0)) := (HL.out.cell 5 _ rfl).1
   have k6 : wr.cell? ⟨w.heap.size + 1, 6, none⟩ = some (.bool (lkM s 4 1)) := (HL.out.cell 6 _ rfl).1
   have k7 : wr.cell? ⟨w.heap.size + 1, 7, none⟩ = some (.bool (lkM s 4 2)) := (HL.out.cell 7 _ rfl).1
   have k8 : wr.cell? ⟨w.heap.size + 1, 8, none⟩ = some (.bool (lkM s 4 3)) := (HL.out.cell 8 _ rfl).1
   have k9 : wr.cell? ⟨w.heap.size + 1, 9, none⟩ = some (.bool (lkS s 4 0)) := (HL.out.cell 9 _ rfl).1
   have k10 : wr.cell? ⟨w.heap.size + 1, 10, none⟩ = some (.bool (lkS s 4 1)) := (HL.out.cell 10 _ rfl).1
   have k11 : wr.cell? ⟨w.heap.size + 1, 11, none⟩ = some (.bool (lkS s 4 2)) := (HL.out.cell 11 _ rfl).1
   have k12 : wr.cell? ⟨w.heap.size + 1, 12, none⟩ = some (.bool (lkS s 4 3)) := (HL.out.cell 12 _ rfl).1
   have r0 : wr.cell? ⟨w.heap.size, 0, none⟩ = some (.int .i64 0) := by simp [World.cell?, HL.out.r]
   have r1 : wr.cell? ⟨w.heap.size, 1, none⟩ = some (.int .i64 0) := by simp [World.cell?, HL.out.r]
   have r2 : wr.cell? ⟨w.heap.size, 2, none⟩ = some (.int .i64 0) := by simp [World.cell?, HL.out.r]
   have r3 : wr.cell? ⟨w.heap.size, 3, none⟩ = some (.int .i64 0) := by simp [World.cell?, HL.out.r]
   have r4 : wr.cell? ⟨w.heap.size, 4, none⟩ = some (.int .i64 0) := by simp [World.cell?, HL.out.r]
   have r5 : wr.cell? ⟨w.heap.size, 5, none⟩ = some (.bool false) := by simp [World.cell?, HL.out.r]
   have r6 : wr.cell? ⟨w.heap.size, 6, none⟩ = some (.bool false) := by simp [World.cell?, HL.out.r]
   have r7 : wr.cell? ⟨w.heap.size, 7, none⟩ = some (.bool false) := by simp [World.cell?, HL.out.r]
   have r8 : wr.cell? ⟨w.heap.size, 8, none⟩ = some (.bool false) := by simp [World.cell?, HL.out.r]
   have r9 : wr.cell? ⟨w.heap.size, 9, none⟩ = some (.bool false) := by simp [World.cell?, HL.out.r]
   have r10 : wr.cell? ⟨w.heap.size, 10, none⟩ = some (.bool false) := by simp [World.cell?, HL.out.r]
   have r11 : wr.cell? ⟨w.heap.size, 11, none⟩ = some (.bool false) := by simp [World.cell?, HL.out.r]
   have r12 : wr.cell? ⟨w.heap.size, 12, none⟩ = some (.bool false) := by simp [World.cell?, HL.out.r]
   have fr : ∀ q, wr.frozen? ⟨w.heap.size, q, none⟩ = false := fun q => by simp [World.frozen?, HL.out.r]
   have rlt : w.heap.size < wr.heap.size := by have := HL.out.lt; omega
   go_wp2
   refine bodyPost_ret (v := .agg (qcb s 4)) (by simp [results, Tryz.results36, go_sem, qcb, fr, rlt, r0, r1, r2, r3, r4, r5, r6, r7, r8, r9, r10, r11, r12]) rfl ⟨rfl, ?_⟩
   iterate 13 refine Below.setCell ?_ (by exact jy _) _
   exact HL.out.below
end
end Go.Proofs.YtkpekiajdlolnabGreat.Ph
namespace Go.Proofs.YtkpekiajdlolnabGreat
open Go.RowKit Go.Maps
section
variable {x : Nat → Value} {w w1 : World} {Q : Exit → Act → World → Prop} {o : OpV} {W ob pb k n0 n : Nat} {cs : List Cst} {c c' : Cst}
theorem q1o {s : St} (h : Ok2 n s) : ∀ i, i < 4 → ∀ p ∈ s.kv i, p.1.length ≤ maxLen := fun i hi p hp => by
 have := h.key i hi p hp
 unfold maxLen
 omega
theorem q1x (h : SwW n0 w W n cs ob pb k o c) (hb : Below w.heap.size w w1) (ho : (-9223372036854775808 ≤ o.b ∧ o.b ≤ 9223372036854775807) ∧ (-9223372036854775808 ≤ o.c ∧ o.c ≤ 9223372036854775807)) (hn : n ≤ 1073741820) :
  Calls Tryz.prog 31 #[.pointer (some ⟨c.A.cl, 0, none⟩), .int .i64 o.b, .int .i64 o.c] w1 fun e w' => e = .returned (.int .i64 (mvE c.s o.b o.c)) ∧ ∃ c', qgs n0 w w' W n cs ob pb k o c c' (mvS c.s o.b o.c) :=
 qhd h hb fun hp => Ph.q19 hp h.ok.ris h.ok.len (q1o h.ok) (by have := h.ok.id; omega) o.b o.c ho.1 ho.2
theorem qwi {w0 : World} (h0 : SwW n0 w0 W n cs ob pb k o c) (h : qgs n0 w0 w W n cs ob pb k o c c' (mvS c.s o.b o.c)) (hb : Below w.heap.size w w1) (ho : (-9223372036854775808 ≤ o.b ∧ o.b ≤ 9223372036854775807) ∧ (-9223372036854775808 ≤ o.c ∧ o.c ≤ 9223372036854775807)) (hn : n ≤ 1073741820) :
  Calls Tryz.prog 32 #[.pointer (some ⟨c.B.ml, 0, none⟩), .int .i64 o.b, .int .i64 o.c] w1 fun e w' => e = .returned (.int .i64 (mvE c.s o.b o.c)) ∧ je n0 w0 W n cs w' ∧ SwC w' ob pb o c := by
 refine qqe h hb h0.ck h0.st.ev (fun hm => ?_) (q50 h0.ok o.b o.c)
 rw [h0.e]
 exact Ph.q04 hm h0.okt.len (by have := h0.okt.id; omega) o.b o.c ho.1 ho.2
theorem qvs (h : SwW n0 w W n cs ob pb k o c) (hb : Below w.heap.size w w1) (ho : -9223372036854775808 ≤ o.b ∧ o.b ≤ 9223372036854775807) :
  Calls Tryz.prog 33 #[.pointer (some ⟨c.A.cl, 0, none⟩), .int .i64 o.b] w1 fun e w' => e = .returned (.int .i64 (Ph.abE c.s o.b)) ∧ ∃ c', qgs n0 w w' W n cs ob pb k o c c' (Ph.abS c.s o.b) :=
 qhd h hb fun hp => Ph.qyp hp o.b ho
theorem qtp {w0 : World} (h0 : SwW n0 w0 W n cs ob pb k o c) (h : qgs n0 w0 w W n cs ob pb k o c c' (Ph.abS c.s o.b)) (hb : Below w.heap.size w w1) (ho : -9223372036854775808 ≤ o.b ∧ o.b ≤ 9223372036854775807) :
  Calls Tryz.prog 34 #[.pointer (some ⟨c.B.ml, 0, none⟩), .int .i64 o.b] w1 fun e w' => e = .returned (.int .i64 (Ph.abE c.s o.b)) ∧ je n0 w0 W n cs w' ∧ SwC w' ob pb o c := by
 refine qqe h hb h0.ck h0.st.ev (fun hm => ?_) (q5x h0.ok o.b)
 rw [h0.e]
 exact Ph.qwd hm o.b ho
theorem q69 (hob : x 3 = .pointer (some ⟨ob, 0, none⟩)) (hpb : x 9 = .pointer (some ⟨pb, 0, none⟩)) (h : SwW n0 w W n cs ob pb k o c) (hs : ((-9223372036854775808 ≤ o.b ∧ o.b ≤ 9223372036854775807) ∧ (-9223372036854775808 ≤ o.c ∧ o.c ≤ 9223372036854775807)) ∧ n ≤ 1073741820) : Code.wp Tryz.prog tMv (qgu (je n0 w W n cs)) ⟨SS x, []⟩ w := by
 obtain ⟨a1, a2, a3, a4, a5, a6⟩ := h.cells
 have H := Lib.hid h
 have HS := Lib.hid hs
 clear h hs a4 a5
 obtain ⟨x, rfl⟩ := ql hob
 obtain ⟨x, rfl⟩ := ql (x := x) (j := 9) (v := .pointer (some ⟨pb, 0, none⟩)) hpb
 clear hob hpb
 unfold tMv tK6 tK5 tK4 tK3 tK2 tM tB SS
 simp only [Tryz.f15, Option.getD, hd1, tl1, c1, c2, blk, upd, Nat.reduceEqDiff, if_true, if_false]
 go_wp2
 go_region_held3 (fun w' => w'.cell? ⟨pb, 0, none⟩ = some (.pointer (some ⟨c.A.cl, 0, none⟩)) ∧ w'.cell? ⟨pb, 1, none⟩ = some (.pointer (some ⟨c.B.ml, 0, none⟩)) ∧ w'.cell? ⟨ob, 2, none⟩ = some (.int .i64 o.b) ∧ w'.cell? ⟨ob, 3, none⟩ = some (.int .i64 o.c))
  (first | exact ⟨a1, a2, a3, a6⟩ | exact ⟨H1.out.cells.1, H1.out.cells.2.1, H1.out.cells.2.2.1, H1.out.cells.2.2.2.2.2⟩ | exact ⟨H2.out.2.1, H2.out.2.2.1, H2.out.2.2.2.1, H2.out.2.2.2.2.2.2⟩)
  (first
   |(go_at_call 31; refine (q1x H.out (by first | exact jo _ _ | exact (jo _ _).drew) HS.out.1 HS.out.2).mono ?_; rintro e w1 ⟨rfl, c', h1⟩; have H1 := Lib.hid h1; clear h1)
   |(go_at_call 32; refine (qwi H.out H1.out (by first | exact jo _ _ | exact (jo _ _).drew) HS.out.1 HS.out.2).mono ?_; rintro e w2 ⟨rfl, h2⟩; have H2 := Lib.hid h2; clear h2))
 go_wp2
 exact ⟨rfl, rfl, H2.out.1⟩
theorem q6x (hob : x 3 = .pointer (some ⟨ob, 0, none⟩)) (hpb : x 9 = .pointer (some ⟨pb, 0, none⟩)) (h : SwW n0 w W n cs ob pb k o c) (hs : -9223372036854775808 ≤ o.b ∧ o.b ≤ 9223372036854775807) : Code.wp Tryz.prog tAb (qgu (je n0 w W n cs)) ⟨SS x, []⟩ w := by
 obtain ⟨a1, a2, a3, a4, a5, a6⟩ := h.cells
 have H := Lib.hid h
 have HS := Lib.hid hs
 clear h hs a4 a5 a6
 obtain ⟨x, rfl⟩ := ql hob
 obtain ⟨x, rfl⟩ := ql (x := x) (j := 9) (v := .pointer (some ⟨pb, 0, none⟩)) hpb
 clear hob hpb
 unfold tAb tK7 tK6 tK5 tK4 tK3 tK2 tM tB SS
 simp only [Tryz.f15, Option.getD, hd1, tl1, c1, c2, blk, upd, Nat.reduceEqDiff, if_true, if_false]
 go_wp2
 go_region_held3 (fun w' => w'.cell? ⟨pb, 0, none⟩ = some (.pointer (some ⟨c.A.cl, 0, none⟩)) ∧ w'.cell? ⟨pb, 1, none⟩ = some (.pointer (some ⟨c.B.ml, 0, none⟩)) ∧ w'.cell? ⟨ob, 2, none⟩ = some (.int .i64 o.b))
  (first | exact ⟨a1, a2, a3⟩ | exact ⟨H1.out.cells.1, H1.out.cells.2.1, H1.out.cells.2.2.1⟩ | exact ⟨H2.out.2.1, H2.out.2.2.1, H2.out.2.2.2.1⟩)
  (first
   |(go_at_call 33; refine (qvs H.out (by first | exact jo _ _ | exact (jo _ _).drew) HS.out).mono ?_; rintro e w1 ⟨rfl, c', h1⟩; have H1 := Lib.hid h1; clear h1)
   |(go_at_call 34; refine (qtp H.out H1.out (by first | exact jo _ _ | exact (jo _ _).drew) HS.out).mono ?_; rintro e w2 ⟨rfl, h2⟩; have H2 := Lib.hid h2; clear h2))
 go_wp2
 exact ⟨rfl, rfl, H2.out.1⟩
theorem q1r (h : SwW n0 w W n cs ob pb k o c) (hb : Below w.heap.size w w1) : Calls Tryz.prog 35 #[.pointer (some ⟨c.A.cl, 0, none⟩)] w1 fun e w' => e = .returned (.agg (Ph.qcb c.s 4)) ∧ SwW n0 w' W n cs ob pb k o c ∧ Below w.heap.size w w' :=
 (Ph.q18 (h.below hb).cst.p).mono fun e w' ⟨h1, h2⟩ => ⟨h1, (h.below hb).below h2, hb.trans (h2.mono hb.size)⟩
theorem qwh {w0 : World} (h : SwW n0 w W n cs ob pb k o c) (hw : Below w0.heap.size w0 w) (hb : Below w.heap.size w w1) : Calls Tryz.prog 36 #[.pointer (some ⟨c.B.ml, 0, none⟩)] w1 fun e w' => e = .returned (.agg (Ph.qcb c.s 4)) ∧ SwW n0 w' W n cs ob pb k o c ∧ Below w0.heap.size w0 w' := by
 rw [h.e]
 exact (Ph.q03 (h.below hb).cst.m).mono fun e w' ⟨h1, h2⟩ => ⟨h1, (h.below hb).below h2, hw.trans ((hb.mono hw.size).trans (h2.mono (xlt hw.size hb.size)))⟩
theorem q09 (k : Nat) (a : Int) (W : World) : (Op.equalIn (k + 1) 3 (.int .i64 a) (.int .i64 a)).run Tryz.prog W = .ok true W := by
 simp [Op.equalIn, go_sem]
theorem qwp (k : Nat) (a : Bool) (W : World) : (Op.equalIn (k + 1) 4 (.bool a) (.bool a)).run Tryz.prog W = .ok true W := by
 simp [Op.equalIn, go_sem]
theorem q1a (k : Nat) (a b c d : Int) (W : World) : (Op.equalIn (k + 2) 48 (.agg #[.int .i64 a, .int .i64 b, .int .i64 c, .int .i64 d]) (.agg #[.int .i64 a, .int .i64 b, .int .i64 c, .int .i64 d])).run Tryz.prog W = .ok true W := by
 have hc : Tryz.prog.cellsOf 3 = 1 := by kernel_rfl
 obtain ⟨i, hi⟩ : ∃ i, Tryz.prog.info? 3 = some i := by
  have h : (Tryz.prog.info? 3).isSome = true := by kernel_rfl
  exact Option.isSome_iff_exists.1 h
 have h1 := fun a W => q09 k a W
 rw [run_equalIn_array (P := Tryz.prog) W (k + 1) _ _ Tryz.underlying48 hi, hc]
 simp [Op.eqItems, part, go_sem, List.range, List.range.loop, isAgg, h1]
theorem qwq (k : Nat) (a b c d : Bool) (W : World) : (Op.equalIn (k + 2) 68 (.agg #[.bool a, .bool b, .bool c, .bool d]) (.agg #[.bool a, .bool b, .bool c, .bool d])).run Tryz.prog W = .ok true W := by
 have hc : Tryz.prog.cellsOf 4 = 1 := by kernel_rfl
 obtain ⟨i, hi⟩ : ∃ i, Tryz.prog.info? 4 = some i := by
  have h : (Tryz.prog.info? 4).isSome = true := by kernel_rfl
  exact Option.isSome_iff_exists.1 h
 have h1 := fun a W => qwp k a W
 rw [run_equalIn_array (P := Tryz.prog) W (k + 1) _ _ Tryz.underlying68 hi, hc]
 simp [Op.eqItems, part, go_sem, List.range, List.range.loop, isAgg, h1]
theorem qwr (a b c d : Int) (W : World) : (Op.equalIn 9999 48 (.agg #[.int .i64 a, .int .i64 b, .int .i64 c, .int .i64 d]) (.agg #[.int .i64 a, .int .i64 b, .int .i64 c, .int .i64 d])).run Tryz.prog W = .ok true W := q1a 9997 a b c d W
theorem qls (a b c d : Bool) (W : World) : (Op.equalIn 9999 68 (.agg #[.bool a, .bool b, .bool c, .bool d]) (.agg #[.bool a, .bool b, .bool c, .bool d])).run Tryz.prog W = .ok true W := qwq 9997 a b c d W
theorem q68 (hpb : x 9 = .pointer (some ⟨pb, 0, none⟩)) (h : SwW n0 w W n cs ob pb k o c) : Code.wp Tryz.prog tLk (qgu (je n0 w W n cs)) ⟨SS x, []⟩ w := by
 obtain ⟨a1, a2, _⟩ := h.cells
 have H := Lib.hid h
 clear h
 obtain ⟨x, rfl⟩ := ql hpb
 clear hpb
 obtain ⟨v, hv⟩ : ∃ v, Ph.qcb c.s 4 = v := ⟨_, rfl⟩
 have HV := Lib.hid hv
 unfold Ph.qcb at hv
 generalize Ph.lkO c.s 4 0 = x0, Ph.lkO c.s 4 1 = x1, Ph.lkO c.s 4 2 = x2, Ph.lkO c.s 4 3 = x3 at hv
 generalize Ph.lkM c.s 4 0 = y0, Ph.lkM c.s 4 1 = y1, Ph.lkM c.s 4 2 = y2, Ph.lkM c.s 4 3 = y3 at hv
 generalize Ph.lkS c.s 4 0 = z0, Ph.lkS c.s 4 1 = z1, Ph.lkS c.s 4 2 = z2, Ph.lkS c.s 4 3 = z3 at hv
 subst hv
 have p1 := qwr x0 x1 x2 x3
 have p2 := qls y0 y1 y2 y3
 have p3 := qls z0 z1 z2 z3
 unfold tLk tK8 tK7 tK6 tK5 tK4 tK3 tK2 tM tB SS
 simp only [Tryz.f15, Option.getD, hd1, tl1, c1, c2, blk, upd, Nat.reduceEqDiff, if_true, if_false]
 go_wp2
 go_region_held3 (fun w' => w'.cell? ⟨pb, 0, none⟩ = some (.pointer (some ⟨c.A.cl, 0, none⟩)) ∧ w'.cell? ⟨pb, 1, none⟩ = some (.pointer (some ⟨c.B.ml, 0, none⟩)))
  (first | exact ⟨a1, a2⟩ | exact ⟨H1.out.1.cells.1, H1.out.1.cells.2.1⟩ | exact ⟨H2.out.1.cells.1, H2.out.1.cells.2.1⟩)
  (first
   |(go_at_call 35; refine (q1r H.out (by first | exact jo _ _ | exact (jo _ _).drew)).mono ?_; rw [HV.out]; rintro e w1 ⟨rfl, h1⟩; have H1 := Lib.hid h1; clear h1)
   |(go_at_call 36; refine (qwh H1.out.1 H1.out.2 (by first | exact jo _ _ | exact (jo _ _).drew)).mono ?_; rw [HV.out]; rintro e w2 ⟨rfl, h2⟩; have H2 := Lib.hid h2; clear h2))
 go_wp2
 exact ⟨rfl, rfl, H.out.st.law.refl' H.out.st.ev H2.out.2⟩
end
theorem q20 : ∃ i, Tryz.prog.info? 9 = some i ∧ i.zero = some (.string ⟨#[]⟩) ∧ i.size = 1 ∧ i.bytes = 16 := by
 have h : (Tryz.prog.info? 9).map (fun i => (i.zero, i.size, i.bytes)) = some (some (.string ⟨#[]⟩), 1, 16) := by kernel_rfl
 obtain ⟨i, h1, h2⟩ := Option.map_eq_some_iff.1 h
 injection h2 with h2 h3
 injection h3 with h3 h4
 exact ⟨i, h1, h2, h3, h4⟩
section
variable {x : Nat → Value} {w w1 : World} {Q : Exit → Act → World → Prop} {o : OpV} {W ob pb k n0 n : Nat} {cs : List Cst} {c c' : Cst} {kd : Int}
structure qs5 (n0 : Nat) (w0 w : World) (W n : Nat) (cs : List Cst) : Prop where
 l : ∃ cs', jr n0 w W n cs' ∧ (∀ c ∈ cs', Even (n + 1) c) ∧ cs'.length = cs.length
 but : But (fun b => n0 ≤ b) w0 w
theorem qs5.post {w0 : World} (h : qs5 n0 w0 w W n cs) : je n0 w0 W n cs w := by
 obtain ⟨cs', h1, h2, h3⟩ := h.l
 exact ⟨n + 1, cs', h1.up (Nat.le_succ n), h2, jy _, by omega, h.but⟩
theorem q06 {w0 : World} {s' : St} (h : qgs n0 w0 w W n cs ob pb k o c c' s') (hb : Below w.heap.size w w1) (hk : cs[k]? = some c) (he : ∀ c ∈ cs, Even n c) {f : FuncId} {args : Array Value} {v : Value} (hc : MAt w1 c'.G c.B c.t → Calls Tryz.prog f args w1 (Ph.qdt w1 c'.G c.B v s')) (hok : Ok2 (n + 1) s') :
  Calls Tryz.prog f args w1 fun e w' => e = .returned v ∧ qs5 n0 w0 w' W n cs := by
 have hlt := (List.getElem?_eq_some_iff.1 hk).1
 have hk1 : (cs.set k c')[k]? = some c' := List.getElem?_set_self hlt
 have h1 := h.law.below hb
 have hcc := h1.each c' (List.mem_of_getElem? hk1)
 have hm : MAt w1 c'.G c.B c.t := by rw [← h.t, ← h.ml]; exact hcc.m
 refine (hc hm).mono fun e w' ⟨e1, B', e2, e3, e4⟩ => ⟨e1, ⟨_, h1.doc hk1 e4 e3 (e2.trans (by rw [h.ml])), fun d hd => ?_, by simp⟩, h.but.trans ((But.of_below (B := fun b => n0 ≤ b) hb).trans (e4.mono fun b hg => (hcc.lo b (.inr hg)).1))⟩
 rw [List.set_set] at hd
 rcases List.mem_or_eq_of_mem_set hd with hd | hd
 ·exact ⟨(he d hd).1, (he d hd).2.up (Nat.le_succ n)⟩
 ·subst hd
  exact ⟨h.s, by rw [show (Cst.s _) = s' from h.s]; exact hok⟩
theorem qsq {s : St} (h : Ok2 n s) (hn : n ≤ 1073741820) : ∀ i, i < 4 → ∀ m, s.mv i = some m → m.n = 0 ∧ m.id < 9223372036854775808 := fun i hi m hm => by
 have := h.mv i hi m hm
 exact ⟨this.nn, by have := this.id; omega⟩
theorem qsm (h : SwW n0 w W n cs ob pb k o c) (ho : -9223372036854775808 ≤ o.b ∧ o.b ≤ 9223372036854775807) (hn : n ≤ 1073741820) :
  Calls Tryz.prog 46 #[.pointer (some ⟨c.A.cl, 0, none⟩), .int .i64 o.b] w fun e w' => e = .returned (.tuple #[sv (nxV c.s o.b), .int .i64 (nxE c.s o.b)]) ∧ ∃ c', qgs n0 w w' W n cs ob pb k o c c' (nxS c.s o.b) :=
 qhd h (jo _ _) fun hp => Ph.q2a hp (qsq h.ok hn) o.b ho
theorem qob {w0 : World} (h0 : SwW n0 w0 W n cs ob pb k o c) (h : qgs n0 w0 w W n cs ob pb k o c c' (nxS c.s o.b)) (ho : -9223372036854775808 ≤ o.b ∧ o.b ≤ 9223372036854775807) (hn : n ≤ 1073741820) :
  Calls Tryz.prog 61 #[.pointer (some ⟨c.B.ml, 0, none⟩), .int .i64 o.b] w fun e w' => e = .returned (.tuple #[sv (nxV c.s o.b), .int .i64 (nxE c.s o.b)]) ∧ qs5 n0 w0 w' W n cs := by
 refine q06 h (jo _ _) h0.ck h0.st.ev (fun hm => ?_) (q51 h0.ok o.b)
 rw [h0.e]
 exact Ph.q05 hm (qsq h0.okt hn) o.b ho
theorem q5v (s : St) (k : Int) : nxE s k = 0 ∨ nxE s k = 8 ∨ nxE s k = 11 := by
 unfold nxE
 split
 ·exact .inr (.inl rfl)
 ·split
  ·exact .inr (.inr rfl)
  ·exact .inl rfl
theorem qs5.bs {w0 : World} (h : qs5 n0 w0 w W n cs) : ∃ (v : Value) (bs : List Bs), w.cell? ⟨W, 1, none⟩ = some v ∧ w.frozen? ⟨W, 1, none⟩ = false ∧ bs.length ≤ n ∧ w.ownsRow n0 9 1 v bs.length (bs.map sv) ∧ n0 ≤ w.heap.size ∧
  ∀ (b0 : Bs) (w3 : World) (v3 : Value) (ob' : Obj), (w.alloc ob').grownBy w3 v.ownBlock → (v3.ownBlock = v.ownBlock ∨ v3.ownBlock = some (w.alloc ob').heap.size) → w3.ownsRow n0 9 1 v3 (bs.length + 1) (bs.map sv ++ [sv b0]) →
   w3.cell? ⟨W, 1, none⟩ = some v ∧ w3.frozen? ⟨W, 1, none⟩ = false ∧ je n0 w0 W n cs (w3.setCell ⟨W, 1, none⟩ v3) := by
 obtain ⟨cs', h1, h2, h3⟩ := h.l
 obtain ⟨CS, S, m, bs, hw⟩ := h1.b
 obtain ⟨cur, k1, q2, k2, k3, k4⟩ := hw.ls.b
 refine ⟨CS.bs, bs, by simp [World.cell?, k1, k3], by simp [World.frozen?, k1], hw.le.2, hw.br, h1.qig, fun b0 w3 v3 ob' hg hat hr => ?_⟩
 obtain ⟨a1, a2, a3, a4⟩ := h1.told hw hg (fun g e => by
  rcases hat with e2 | e2
  ·left; rw [← e2]; exact e
  ·right; rw [e2] at e; cases e; simp) hr
 exact ⟨a1, a2, n + 1, cs', a3, h2, jy _, by omega, h.but.trans a4⟩
theorem q2p (h : jr n0 w W n cs) (he : ∀ c ∈ cs, Even n c) (hk : cs[k]? = some c) (h9 : o.k = 9) (ho : -9223372036854775808 ≤ o.b ∧ o.b ≤ 9223372036854775807) (hn : n ≤ 1073741820) :
  Calls Tryz.prog 37 #[.pointer (some ⟨W, 0, none⟩), .agg #[.pointer (some ⟨c.A.cl, 0, none⟩), .pointer (some ⟨c.B.ml, 0, none⟩)], .agg o.cells] w fun e w' => e = .returned (.bool true) ∧ je n0 w W n cs w' := by
 have hm := List.mem_of_getElem? hk
 have hS : SwW n0 ((w.alloc (.cells #[.pointer (some ⟨c.A.cl, 0, none⟩), .pointer (some ⟨c.B.ml, 0, none⟩)] 56)).alloc (.cells o.cells 30)) W n cs (w.heap.size + 1) w.heap.size k o c := by
  have b1 : Below w.heap.size w ((w.alloc (.cells #[.pointer (some ⟨c.A.cl, 0, none⟩), .pointer (some ⟨c.B.ml, 0, none⟩)] 56)).alloc (.cells o.cells 30)) := ((jo _ _).alloc (jy _) _).alloc (by simp) _
  refine ⟨⟨h.below b1, he, heap_alloc_new' _ _ (by simp), fun d hd ho => ?_⟩, ?_, hk, fun ho => ?_⟩
  ·have := ((h.each d hd).lo _ ho).2
   omega
  ·unfold qjk
   rw [heap_alloc_old _ _ (by simp)]
   exact heap_alloc_new _ _
  ·have := ((h.each c hm).lo _ ho).2
   omega
 have qa8 : But (fun b => n0 ≤ b) w ((w.alloc (.cells #[.pointer (some ⟨c.A.cl, 0, none⟩), .pointer (some ⟨c.B.ml, 0, none⟩)] 56)).alloc (.cells o.cells 30)) := But.of_below (((jo _ _).alloc (jy _) _).alloc (by simp) _)
 have HS := Lib.hid hS
 have HBT := Lib.hid qa8
 have HN := Lib.hid hn
 have HB := Lib.hid ho
 obtain ⟨gs, hg⟩ : ∃ gs, sv (nxV c.s o.b) = .string gs := ⟨_, rfl⟩
 have HG := Lib.hid hg
 have hge := q5v c.s o.b
 obtain ⟨ge, q5g⟩ : ∃ ge, nxE c.s o.b = ge := ⟨_, rfl⟩
 rw [q5g] at hge
 have HE := Lib.hid q5g
 obtain ⟨si, l1, l2, l3, l4⟩ := q20
 have HI := Lib.hid (And.intro l1 (And.intro l2 (And.intro l3 l4)))
 clear h he hk hm hS qa8 hn ho hg q5g l1 l2 l3 l4
 rcases hge with rfl | rfl | rfl
 ·unfold OpV.cells at *
  rw [h9] at *
  go_enter Tryz.func37, Tryz.ntmps37
  go_wp2_with (first
   |(go_at_call 46; refine (qsm HS.out HB.out HN.out).mono ?_; rintro e w2 ⟨rfl, c', h2⟩; rw [HG.out, HE.out]; have H2 := Lib.hid h2; obtain ⟨a1, a2, a3, _⟩ := h2.cells; clear h2)
   |(go_at_call 61; refine (qob HS.out H2.out HB.out HN.out).mono ?_; rintro e w3 ⟨rfl, h3⟩; rw [HG.out, HE.out]; obtain ⟨bv, bs, d1, d2, d3, d4, d5, d6⟩ := h3.bs; obtain ⟨sa, cp, hv⟩ := xq d4; rw [hv] at d1 d4 d6; have H3 := Lib.hid (And.intro d3 (And.intro d4 (And.intro d5 d6))); clear h3 d3 d4 d5 d6 hv)
   |(at_builtin; (refine wpList_append_own_at _ rfl (.tmp 43) (.tmp 45) 33 rfl n0 9 si _ 1 16 Tryz.underlying33 HI.out.1 HI.out.2.1 HI.out.2.2.1 HI.out.2.2.2 rfl (by decide) (.slice sa bs.length cp) bs.length (bs.map sv) rfl (H3.out.2.1.alloc _) ⟨w3.heap.size, 0, none⟩ 1 1 [.string gs] rfl rfl (cell1 w3 _ _) (by intro u hu; simp at hu; subst hu; rfl) (by have := H3.out.1; have := HN.out; unfold maxLen; omega) (by have := H3.out.1; have := HN.out; omega) (by have := H3.out.2.2.1; simp; omega) ?_; intro v4 w4 hrow4 hg4 _ q9b; have H4 := Lib.hid (H3.out.2.2.2 (nxV c.s o.b) w4 v4 _ hg4 q9b (by rw [HG.out]; exact hrow4)); obtain ⟨sa4, cp4, hv4⟩ := xq hrow4; subst hv4; obtain ⟨f3, f4, _⟩ := H4.out; clear hrow4 hg4 q9b)))
  go_ret
  obtain ⟨n', cs', q1, q2, q3, q4, q5⟩ := H4.out.2.2
  exact ⟨rfl, n', cs', q1, q2, q3, q4, HBT.out.trans q5⟩
 all_goals
  unfold OpV.cells at *
  rw [h9] at *
  go_enter Tryz.func37, Tryz.ntmps37
  go_wp2_with (first
   |(go_at_call 46; refine (qsm HS.out HB.out HN.out).mono ?_; rintro e w2 ⟨rfl, c', h2⟩; rw [HG.out, HE.out]; have H2 := Lib.hid h2; obtain ⟨a1, a2, a3, _⟩ := h2.cells; clear h2)
   |(go_at_call 61; refine (qob HS.out H2.out HB.out HN.out).mono ?_; rintro e w3 ⟨rfl, h3⟩; rw [HG.out, HE.out]; have H3 := Lib.hid h3; clear h3))
  go_ret
  obtain ⟨n', cs', q1, q2, q3, q4, q5⟩ := H3.out.post
  exact ⟨rfl, n', cs', q1, q2, q3, q4, HBT.out.trans q5⟩
theorem qzn (h : FrX W ob pb kd x) (hs : SwW n0 w W n cs ob pb k o c) (h9 : o.k = 9) (hb : -9223372036854775808 ≤ o.b ∧ o.b ≤ 9223372036854775807) (hn : n ≤ 1073741820) : Code.wp Tryz.prog (tl1 tM) (qgu (je n0 w W n cs)) ⟨SS x, []⟩ w := by
 obtain ⟨x, rfl⟩ := h.lay
 have HC := Lib.hid (q2p hs.st.law hs.st.ev hs.ck h9 hb hn)
 have p0 : w.heap[pb]? = some (.cells #[.pointer (some ⟨c.A.cl, 0, none⟩), .pointer (some ⟨c.B.ml, 0, none⟩)] 56 (0, 0)) := hs.pr
 have o0 : w.heap[ob]? = some (.cells #[.int .i64 o.k, .int .i64 o.a, .int .i64 o.b, .int .i64 o.c, .int .i64 o.d, .int .i64 o.e, .int .i64 o.f, .string o.s, .string o.t, .string o.u] 30 (0, 0)) := hs.st.op
 obtain ⟨q0, q1, _⟩ := hs.cells
 have r0 : w.cell? ⟨ob, 0, none⟩ = some (.int .i64 o.k) := by simp [World.cell?, o0]
 have r1 : w.cell? ⟨ob, 1, none⟩ = some (.int .i64 o.a) := by simp [World.cell?, o0]
 have r2 : w.cell? ⟨ob, 2, none⟩ = some (.int .i64 o.b) := by simp [World.cell?, o0]
 have r3 : w.cell? ⟨ob, 3, none⟩ = some (.int .i64 o.c) := by simp [World.cell?, o0]
 have r4 : w.cell? ⟨ob, 4, none⟩ = some (.int .i64 o.d) := by simp [World.cell?, o0]
 have r5 : w.cell? ⟨ob, 5, none⟩ = some (.int .i64 o.e) := by simp [World.cell?, o0]
 have r6 : w.cell? ⟨ob, 6, none⟩ = some (.int .i64 o.f) := by simp [World.cell?, o0]
 have r7 : w.cell? ⟨ob, 7, none⟩ = some (.string o.s) := by simp [World.cell?, o0]
 have r8 : w.cell? ⟨ob, 8, none⟩ = some (.string o.t) := by simp [World.cell?, o0]
 have r9 : w.cell? ⟨ob, 9, none⟩ = some (.string o.u) := by simp [World.cell?, o0]
 clear h hs h9 hb p0 o0
 unfold tM tB SS
 simp only [Tryz.f15, Option.getD, hd1, tl1, upd, Nat.reduceEqDiff, if_true, if_false]
 go_wp2_with (go_at_call 37; refine HC.out.mono ?_; rintro e w1 ⟨rfl, h1⟩; have H1 := Lib.hid h1; clear h1)
 exact ⟨rfl, rfl, H1.out⟩
end
end Go.Proofs.YtkpekiajdlolnabGreat
namespace Go.Proofs.YtkpekiajdlolnabGreat.Ph
open Go.Conc Go.ConcN Go.RowKit Go.Maps Go.Conc.Lib Go Sim
section ok
theorem jba : codeOk XG.P XG.P fb true tO = true := by kernel_rfl
theorem qyj : codeOk XG.P XG.P fb true tN = true := by kernel_rfl
theorem q4c : codeOk XG.P XG.P fb true tEm = true := by kernel_rfl
theorem jbb : codeOk XG.P XG.P fb true tP = true := by kernel_rfl
theorem ja6 : codeOk XG.P XG.P fb true q3d = true := by kernel_rfl
theorem ok_2 : codeOk XG.P XG.P fb true (hd1 tK2) = true := by kernel_rfl
theorem ok_3 : codeOk XG.P XG.P fb true (hd1 tK3) = true := by kernel_rfl
theorem ok_4 : codeOk XG.P XG.P fb true (hd1 tK4) = true := by kernel_rfl
theorem ok_5 : codeOk XG.P XG.P fb true (hd1 tK5) = true := by kernel_rfl
theorem ok_6 : codeOk XG.P XG.P fb true (hd1 tK6) = true := by kernel_rfl
theorem ok_7 : codeOk XG.P XG.P fb true (hd1 tK7) = true := by kernel_rfl
theorem ok_8 : codeOk XG.P XG.P fb true (hd1 tK8) = true := by kernel_rfl
theorem ja9 : codeOk XG.P XG.P fb true tMv = true := by kernel_rfl
theorem ja7 : codeOk XG.P XG.P fb true tAb = true := by kernel_rfl
theorem ja8 : codeOk XG.P XG.P fb true tLk = true := by kernel_rfl
theorem q54 : codeOk XG.P XG.P fb true q3b = true := by kernel_rfl
theorem q52 : codeOk XG.P XG.P fb true q23 = true := by kernel_rfl
theorem q53 : codeOk XG.P XG.P fb true q28 = true := by kernel_rfl
theorem q11 : codeOk XG.P XG.P fb true (tl1 qa3) = true := by kernel_rfl
theorem qyi : codeOk XG.P XG.P fb true (tl1 tM) = true := by kernel_rfl
end ok
section
variable {N : Blocks} {kv : List Value} {ks cs1 : List Frame} {Z : Frame → World → Prop} {K : List Item} {x : Nat → Value} {w0 w w1 w2 : World} {n0 W n ob pb k : Nat} {cs : List Cst} {c : Cst} {o : OpV}
theorem yg (h : SwW n0 w W n cs ob pb k o c) (s : Same w w1) : SwW n0 w1 W n cs ob pb k o c := h.idle (But.same' s)
theorem qep (h : qbb n0 w W n cs ob o) (s : Same w w1) : qbb n0 w1 W n cs ob o := h.idle (But.same' s)
theorem qr5 {F : FuncId → Prop} {ρ : Rel} (h : jw F ρ (SS x).toList (SS x).toList) {j : Nat} (hj : j < 224) {v : Value} (e : x j = v) : VR F ρ v v := by
 have := jw.qjm h j
 rwa [show (SS x).getD j undef = v from (qfi x hj).trans e] at this
theorem q2l (hx : FrX W ob pb o.k x) (h : SwW n0 w W n cs ob pb k o c) (hb : -9223372036854775808 ≤ o.b ∧ o.b ≤ 9223372036854775807) (hn : n ≤ 1073741820) (hN : ∀ b, N b → b < w.heap.size) (hpre : But (fun b => n0 ≤ b) w0 w) :
  qf N kv ks (bT.at ⟨SS x, []⟩ (.code qa3 :: K)) w ks (Ret fT fun v w' => v = .bool true ∧ je n0 w0 W n cs w') := by
 rw [qzp]
 refine qf.seq (qf.region ?_)
 change qf N kv ks (bT.at ⟨SS x, []⟩ (.inRegion R24 [0, 1, 2, 3, 4, 5, 6, 7, 8, 9, 10, 11, 12, 13] :: _)) w ks _
 refine qf.opj (o := qx7) rfl rfl (by kernel_rfl) (fun wc s => jb3 hx.p) fun wa sa => ?_
 refine qf.opj (o := qx8) rfl rfl (by kernel_rfl) (fun wc s => jb4 rfl ((yg h (sa.trans s)).cells.1)) fun wb sb => ?_
 refine qf.opj (o := qx9) rfl rfl (by kernel_rfl) (fun wc s => jb5 hx.o) fun wd sd => ?_
 refine qf.opj (o := qya) rfl rfl (by kernel_rfl) (fun wc s => jb6 rfl ((yg h (((sa.trans sb).trans sd).trans s)).cells.2.2.2.1)) fun we se => ?_
 refine qf.opj (o := qyb) rfl rfl (by kernel_rfl) (fun wc s => jb7 hx.o) fun wf sf => ?_
 refine qf.opj (o := qyc) rfl rfl (by kernel_rfl) (fun wc s => jb8 rfl ((yg h (((((sa.trans sb).trans sd).trans se).trans sf).trans s)).cells.2.2.2.2.1)) fun wg sg => ?_
 refine qf.opj (o := qyd) rfl rfl (by kernel_rfl) (fun wc s => jb9 hx.o) fun wh sh => ?_
 refine qf.opj (o := qye) rfl rfl (by kernel_rfl) (fun wc s => jca rfl ((yg h (((((((sa.trans sb).trans sd).trans se).trans sf).trans sg).trans sh).trans s)).cells.2.2.1)) fun wi si => ?_
 have s : Same w wi := ((((((sa.trans sb).trans sd).trans se).trans sf).trans sg).trans sh).trans si
 have h1 := yg h s
 have hN1 : ∀ b, N b → b < wi.heap.size := fun b hb => by rw [s.heap]; exact hN b hb
 clear sa sb sd se sf sg sh si
 generalize hy : upd (upd (upd (upd (upd (upd (upd (upd x 146 _) 147 _) 148 _) 149 _) 150 _) 151 _) 152 _) 153 _ = y
 have y0 : FrX W ob pb o.k y := by subst hy; exact ⟨hx.w, hx.o, hx.p, hx.k⟩
 have y1 : y 147 = .pointer (some ⟨c.A.cl, 0, none⟩) := by subst hy; rfl
 have y2 : y 149 = .string o.s := by subst hy; rfl
 have y3 : y 151 = .string o.t := by subst hy; rfl
 have y4 : y 153 = .int .i64 o.b := by subst hy; rfl
 clear hy
 refine qf.call (o := R24.getD 8 ⟨none, .alloc 0, 0, "", #[], none⟩) rfl rfl (by decide) (q48 y1 y2 y3 y4) Tryz.func27 (fun ρ hf _ _ => ?_) (qzd h1 hb hN1) ?_
 ·have ht := (hf rfl).tmps
  exact .cons (qr5 ht (by decide) y1) (.cons (qr5 ht (by decide) y2) (.cons (qr5 ht (by decide) y3) (.cons (qr5 ht (by decide) y4) .nil)))
 rintro _ wj ⟨ov, er, l, rfl, hr, hl, qa8, hdoc⟩
 have h2 : SwW n0 wj W n cs ob pb k o c := h1.idle qa8
 have hlow : Low wj W cs wi.heap.size := h1.st.law.low.idle h1.st.law qa8
 have hlo := h1.st.law.qig
 have jad : But (fun b => n0 ≤ b) w0 wj := (hpre.trans (But.same' s)).trans (qa8.mono fun _ => False.elim)
 change qf N kv ks (bT.at ⟨(SS y).setIfInBounds 154 (.tuple #[ov, .int .i64 er]), []⟩ (.inRegion R24 [9, 10, 11, 12, 13] :: _)) wj ks _
 rw [q4r]
 refine qf.opj (o := qyf) rfl rfl (by kernel_rfl) (fun wc s => jcb rfl) fun wa sa => ?_
 refine qf.opj (o := qq6) rfl rfl (by kernel_rfl) (fun wc s => q7f rfl) fun wb sb => ?_
 refine qf.opj (o := qq7) rfl rfl (by kernel_rfl) (fun wc s => q7g rfl) fun wd sd => ?_
 refine qf.opj (o := qq8) rfl rfl (by kernel_rfl) (fun wc s => q7h rfl) fun we se => ?_
 refine qf.opj (o := qq9) rfl rfl (by kernel_rfl) (fun wc s => q7i rfl) fun wf sf => ?_
 have s2 : Same wj wf := (((sa.trans sb).trans sd).trans se).trans sf
 clear sa sb sd se sf
 generalize hz : upd (upd (upd (upd (upd (upd y 154 _) 145 _) 155 _) 156 _) 14 _) 15 _ = z
 have z0 : FrX W ob pb o.k z := by subst hz; exact ⟨y0.w, y0.o, y0.p, y0.k⟩
 have z1 : z 14 = ov := by subst hz; rfl
 have z2 : z 15 = .int .i64 er := by subst hz; rfl
 clear hz
 refine qf.regionEnd ?_
 refine qf.qiq (n0 := n0) (w0 := w0) (W := W) (n := n) (cs := cs) q11 (jad.trans (But.same' s2)) fun wc s3 => ?_
 have h3 := yg h2 (s2.trans s3)
 have hbt : But (fun _ => False) wj wc := But.same' (s2.trans s3)
 exact qzq z0.w z0.o z0.p z1 z2 h3 (by omega) (qj hr fun g hg => hbt.keep g (hr.lt g hg).2 id) (by omega) hlo (xlt qa8.size hbt.size) (hlow.idle h2.st.law hbt) (hdoc wc h3)
theorem qu0 (hx : FrX W ob pb o.k x) (h : SwW n0 w W n cs ob pb k o c) (ho : OpV.Ok o) (hk : o.k ≤ 9) (hn : n ≤ 1073741820) (hN : ∀ b, N b → b < w.heap.size) (hpre : But (fun b => n0 ≤ b) w0 w) :
  qf N kv ks (bT.at ⟨SS x, []⟩ (.code tK2 :: .inBlock 0 :: .code (tl1 tM) :: K)) w ks (Ret fT fun v w' => v = .bool true ∧ je n0 w0 W n cs w') := by
 have nx : ∀ {j : Nat} {x : Nat → Value} {K : List Item} {a b : Code} {w1 : World} {v : Bool}, j < 224 → x j = .bool v → qf N kv ks (bT.at ⟨SS x, []⟩ (.code (if v then a else b) :: K)) w1 ks (Ret fT fun v w' => v = .bool true ∧ je n0 w0 W n cs w') → qf N kv ks (bT.at ⟨SS x, []⟩ (.code (.cond (.tmp j) a b) :: K)) w1 ks (Ret fT fun v w' => v = .bool true ∧ je n0 w0 W n cs w') := fun {j x K a b w1 v} hj e g => qf.cond (t := v) ((qfi x hj).trans e) g
 rw [q61]
 refine qf.seq ?_
 refine qf.jn (R := fun x w' => FrX W ob pb o.k x ∧ x 85 = .bool (o.k == 2) ∧ Same w w') ok_2 (fun _ _ _ s h => ⟨h.1, h.2.1, h.2.2.trans s⟩) (fun wc s => Code.wp_mono (fun e a w1 q => Jn.mono (fun x w2 ⟨q1, q2, q3⟩ => ⟨q1, q2, q3 ▸ s⟩) q) (sw2 hx)) ?_
 rintro x2 w2 ⟨hx2, e2, s2⟩
 have h2 := yg h s2
 have p2 : But (fun b => n0 ≤ b) w0 w2 := hpre.trans (But.same' s2)
 refine nx (by decide) e2 ?_
 by_cases k2 : o.k = 2
 ·rw [show (o.k == 2) = true by simpa using k2]
  exact qf.qiq q54 p2 fun wc s => q3c hx2.o hx2.p (yg h2 s) ⟨ho.s', hn⟩
 rw [show (o.k == 2) = false by simpa using k2]
 change qf N kv ks (bT.at ⟨SS x2, []⟩ (.code tK3 :: _)) w2 ks _
 rw [q62]
 refine qf.seq ?_
 refine qf.jn (R := fun x w' => FrX W ob pb o.k x ∧ x 103 = .bool (o.k == 3) ∧ Same w2 w') ok_3 (fun _ _ _ s h => ⟨h.1, h.2.1, h.2.2.trans s⟩) (fun wc s => Code.wp_mono (fun e a w1 q => Jn.mono (fun x w2 ⟨q1, q2, q3⟩ => ⟨q1, q2, q3 ▸ s⟩) q) (sw3 hx2)) ?_
 rintro x3 w3 ⟨hx3, e3, s3⟩
 have h3 := yg h2 s3
 have p3 : But (fun b => n0 ≤ b) w0 w3 := p2.trans (But.same' s3)
 refine nx (by decide) e3 ?_
 by_cases k3 : o.k = 3
 ·rw [show (o.k == 3) = true by simpa using k3]
  exact qf.qiq q52 p3 fun wc s => q25 hx3.o hx3.p (yg h3 s) ⟨ho.s', hn⟩
 rw [show (o.k == 3) = false by simpa using k3]
 change qf N kv ks (bT.at ⟨SS x3, []⟩ (.code tK4 :: _)) w3 ks _
 rw [q63]
 refine qf.seq ?_
 refine qf.jn (R := fun x w' => FrX W ob pb o.k x ∧ x 117 = .bool (o.k == 4) ∧ Same w3 w') ok_4 (fun _ _ _ s h => ⟨h.1, h.2.1, h.2.2.trans s⟩) (fun wc s => Code.wp_mono (fun e a w1 q => Jn.mono (fun x w2 ⟨q1, q2, q3⟩ => ⟨q1, q2, q3 ▸ s⟩) q) (sw4 hx3)) ?_
 rintro x4 w4 ⟨hx4, e4, s4⟩
 have h4 := yg h3 s4
 have p4 : But (fun b => n0 ≤ b) w0 w4 := p3.trans (But.same' s4)
 refine nx (by decide) e4 ?_
 by_cases k4 : o.k = 4
 ·rw [show (o.k == 4) = true by simpa using k4]
  exact qf.qiq q53 p4 fun wc s => q29 hx4.o hx4.p (yg h4 s) ho.s'
 rw [show (o.k == 4) = false by simpa using k4]
 change qf N kv ks (bT.at ⟨SS x4, []⟩ (.code tK5 :: _)) w4 ks _
 rw [q64]
 refine qf.seq ?_
 refine qf.jn (R := fun x w' => FrX W ob pb o.k x ∧ x 143 = .bool (o.k == 5) ∧ Same w4 w') ok_5 (fun _ _ _ s h => ⟨h.1, h.2.1, h.2.2.trans s⟩) (fun wc s => Code.wp_mono (fun e a w1 q => Jn.mono (fun x w2 ⟨q1, q2, q3⟩ => ⟨q1, q2, q3 ▸ s⟩) q) (sw5 hx4)) ?_
 rintro x5 w5 ⟨hx5, e5, s5⟩
 have h5 := yg h4 s5
 have p5 : But (fun b => n0 ≤ b) w0 w5 := p4.trans (But.same' s5)
 refine nx (by decide) e5 ?_
 by_cases k5 : o.k = 5
 ·rw [show (o.k == 5) = true by simpa using k5]
  have z5 : w5.heap.size = w.heap.size := by rw [s5.heap, s4.heap, s3.heap, s2.heap]
  exact q2l hx5 h5 ho.b hn (fun b hb => by rw [z5]; exact hN b hb) p5
 rw [show (o.k == 5) = false by simpa using k5]
 change qf N kv ks (bT.at ⟨SS x5, []⟩ (.code tK6 :: _)) w5 ks _
 rw [q65]
 refine qf.seq ?_
 refine qf.jn (R := fun x w' => FrX W ob pb o.k x ∧ x 181 = .bool (o.k == 6) ∧ Same w5 w') ok_6 (fun _ _ _ s h => ⟨h.1, h.2.1, h.2.2.trans s⟩) (fun wc s => Code.wp_mono (fun e a w1 q => Jn.mono (fun x w2 ⟨q1, q2, q3⟩ => ⟨q1, q2, q3 ▸ s⟩) q) (sw6 hx5)) ?_
 rintro x6 w6 ⟨hx6, e6, s6⟩
 have h6 := yg h5 s6
 have p6 : But (fun b => n0 ≤ b) w0 w6 := p5.trans (But.same' s6)
 refine nx (by decide) e6 ?_
 by_cases k6 : o.k = 6
 ·rw [show (o.k == 6) = true by simpa using k6]
  exact qf.qiq ja9 p6 fun wc s => q69 hx6.o hx6.p (yg h6 s) ⟨⟨ho.b, ho.c⟩, hn⟩
 rw [show (o.k == 6) = false by simpa using k6]
 change qf N kv ks (bT.at ⟨SS x6, []⟩ (.code tK7 :: _)) w6 ks _
 rw [q66]
 refine qf.seq ?_
 refine qf.jn (R := fun x w' => FrX W ob pb o.k x ∧ x 198 = .bool (o.k == 7) ∧ Same w6 w') ok_7 (fun _ _ _ s h => ⟨h.1, h.2.1, h.2.2.trans s⟩) (fun wc s => Code.wp_mono (fun e a w1 q => Jn.mono (fun x w2 ⟨q1, q2, q3⟩ => ⟨q1, q2, q3 ▸ s⟩) q) (sw7 hx6)) ?_
 rintro x7 w7 ⟨hx7, e7, s7⟩
 have h7 := yg h6 s7
 have p7 : But (fun b => n0 ≤ b) w0 w7 := p6.trans (But.same' s7)
 refine nx (by decide) e7 ?_
 by_cases k7 : o.k = 7
 ·rw [show (o.k == 7) = true by simpa using k7]
  exact qf.qiq ja7 p7 fun wc s => q6x hx7.o hx7.p (yg h7 s) ho.b
 rw [show (o.k == 7) = false by simpa using k7]
 change qf N kv ks (bT.at ⟨SS x7, []⟩ (.code tK8 :: _)) w7 ks _
 rw [q67]
 refine qf.seq ?_
 refine qf.jn (R := fun x w' => FrX W ob pb o.k x ∧ x 211 = .bool (o.k == 8) ∧ Same w7 w') ok_8 (fun _ _ _ s h => ⟨h.1, h.2.1, h.2.2.trans s⟩) (fun wc s => Code.wp_mono (fun e a w1 q => Jn.mono (fun x w2 ⟨q1, q2, q3⟩ => ⟨q1, q2, q3 ▸ s⟩) q) (sw8 hx7)) ?_
 rintro x8 w8 ⟨hx8, e8, s8⟩
 have h8 := yg h7 s8
 have p8 : But (fun b => n0 ≤ b) w0 w8 := p7.trans (But.same' s8)
 refine nx (by decide) e8 ?_
 by_cases k8 : o.k = 8
 ·rw [show (o.k == 8) = true by simpa using k8]
  exact qf.qiq ja8 p8 fun wc s => q68 hx8.p (yg h8 s)
 rw [show (o.k == 8) = false by simpa using k8]
 change qf N kv ks (bT.at ⟨SS x8, []⟩ (.code .skip :: _)) w8 ks _
 refine qf.skip (qf.inBlock ?_)
 by_cases k9 : o.k = 9
 ·exact qf.qiq qyi p8 fun wc s => qzn hx8 (yg h8 s) k9 ho.b hn
 ·exact qf.qiq qyi p8 fun wc s => q27 hx8 (yg h8 s) k9 (by omega) (by omega) (by omega)
theorem q5n {p q : Value} : #[p, q] ++ Array.replicate 222 undef = SS (fun i => if i = 0 then p else if i = 1 then q else undef) := by
 rw [← qr1 (t := #[p, q] ++ Array.replicate 222 undef) (by simp)]
 refine congrArg SS (funext fun i => ?_)
 rw [Array.getD_eq_getD_getElem?, Array.getElem?_append]
 by_cases h0 : i = 0
 ·subst h0; simp
 ·by_cases h1 : i = 1
  ·subst h1; simp
  ·have h2 : ¬ i < #[p, q].size := by simp; omega
   rw [if_neg h2, if_neg h0, if_neg h1]
   rw [Array.getElem?_replicate]
   split <;> rfl
theorem qqg {p q : Value} : Frame.enter XG.P fT #[p, q] .normal = bT.at ⟨SS (fun i => if i = 0 then p else if i = 1 then q else undef), []⟩ [.code tB] := by
 show Frame.enter Tryz.prog fT _ .normal = _
 rw [enter_at _ Tryz.func15 (show Tryz.f15.body = some tB from rfl)]
 have hn : Tryz.f15.ntmps = 224 := rfl
 rw [hn]
 rw [← q5n]
 rfl
theorem q6s (h : jr n0 w W n cs) (he : ∀ c ∈ cs, Even n c) (ho : OpV.Ok o) (hk : o.k ≤ 9) (hn : n ≤ 1073741820) (hl : cs.length ≤ 4398046511103) (hN : ∀ b, N b → b < w.heap.size) :
  qk2 N kv fT #[.pointer (some ⟨W, 0, none⟩), .agg o.cells] w fun v w' => v = .bool true ∧ je n0 w W n cs w' := fun ks => by
 rw [qqg, jbr]
 generalize hx : (fun i => if i = 0 then (.pointer (some ⟨W, 0, none⟩) : Value) else if i = 1 then .agg o.cells else undef) = x
 have x0 : x 0 = .pointer (some ⟨W, 0, none⟩) := by subst hx; rfl
 have x1 : x 1 = .agg o.cells := by subst hx; rfl
 clear hx
 refine qf.seq ?_
 refine qf.jn (R := fun x w' => x 0 = .pointer (some ⟨W, 0, none⟩) ∧ x 3 = .pointer (some ⟨w.heap.size, 0, none⟩) ∧ qbb n0 w' W n cs w.heap.size o ∧ But (fun _ => False) w w') jba (fun _ w1 wc s h => ⟨h.1, h.2.1, qep h.2.2.1 s, h.2.2.2.trans (But.same' s)⟩) (fun wc s => jbx x1 ⟨_, rfl, x0, ?_, ⟨?_, he, ?_, fun c hc ho => by have := ((h.each c hc).lo _ ho).2; omega⟩, ?_⟩) ?_
 ·show Value.pointer (some ⟨wc.heap.size, 0, none⟩) = _
  rw [s.heap]
 ·have hb : Below w.heap.size wc (wc.alloc (.cells o.cells 30)) := (jo _ _).alloc (by rw [s.heap]; exact jy _) _
  exact (h.idle (But.same' s)).below (by rw [s.heap]; exact hb)
 ·have := heap_alloc_new wc (.cells o.cells 30)
  rw [s.heap] at this
  exact this
 ·have hb : Below wc.heap.size wc (wc.alloc (.cells o.cells 30)) := (jo _ _).alloc (jy _) _
  exact (But.same' s).trans (But.of_below hb)
 rintro xa wa ⟨a0, a3, ha, ba⟩
 have pa : But (fun b => n0 ≤ b) w wa := ba.mono fun _ => False.elim
 refine qf.seq ?_
 by_cases k1 : o.k = 1
 ·by_cases hb : 2 ≤ o.b ∧ o.b ≤ 4
  ·obtain ⟨m, hm⟩ : ∃ m : Nat, o.b = m := ⟨o.b.toNat, by omega⟩
   exact qf.qiq qyj pa fun wc s => q7a a0 a3 (qep ha s) k1 hm (by omega) (by omega) hl
  ·exact qf.qiq qyj pa fun wc s => jbv a3 (qep ha s) k1 (by omega) ho.b
 refine qf.jn (R := fun x w' => x 0 = .pointer (some ⟨W, 0, none⟩) ∧ x 3 = .pointer (some ⟨w.heap.size, 0, none⟩) ∧ Same wa w') qyj (fun _ w1 wc s h => ⟨h.1, h.2.1, h.2.2.trans s⟩) (fun wc s => qzo a3 (qep ha s) k1 ⟨_, rfl, a0, a3, s⟩) ?_
 rintro xb wb ⟨b0, b3, sb⟩
 have hb := qep ha sb
 have pb' : But (fun b => n0 ≤ b) w wb := pa.trans (But.same' sb)
 refine qf.seq ?_
 by_cases hc : cs = []
 ·exact qf.qiq q4c pb' fun wc s => q26 b0 (qep hb s) hc
 have hpos : 0 < cs.length := List.length_pos_iff.2 hc
 refine qf.jn (R := fun x w' => x 0 = .pointer (some ⟨W, 0, none⟩) ∧ x 3 = .pointer (some ⟨w.heap.size, 0, none⟩) ∧ Same wb w') q4c (fun _ w1 wc s h => ⟨h.1, h.2.1, h.2.2.trans s⟩) (fun wc s => Code.wp_mono (fun e a w1 q => Jn.mono (fun x w2 ⟨q1, q2, q3⟩ => ⟨q1, q2, q3 ▸ s⟩) q) (qzm b0 b3 (qep hb s) hpos)) ?_
 rintro xc wc' ⟨c0, c3, sc⟩
 have hc' := qep hb sc
 have pc' : But (fun b => n0 ≤ b) w wc' := pb'.trans (But.same' sc)
 refine qf.seq ?_
 obtain ⟨c, hck⟩ : ∃ c, cs[qf9 o.a cs.length]? = some c := ⟨_, List.getElem?_eq_getElem (qyv hpos)⟩
 refine qf.jn (R := fun x w' => x 0 = .pointer (some ⟨W, 0, none⟩) ∧ x 3 = .pointer (some ⟨w.heap.size, 0, none⟩) ∧ x 9 = .pointer (some ⟨wc'.heap.size, 0, none⟩) ∧ qjk w' wc'.heap.size c ∧ But (fun _ => False) wc' w') jbb (fun _ w1 w2 s h => ⟨h.1, h.2.1, h.2.2.1, (by unfold qjk; rw [s.heap]; exact h.2.2.2.1), h.2.2.2.2.trans (But.same' s)⟩) (fun wc s => Code.wp_mono (fun e a w1 q => Jn.mono (fun x w2 ⟨q1, q2, q3, q4, q5⟩ => ⟨q1, q2, by rw [q3, s.heap], by rw [← s.heap]; exact q4, (But.same' s).trans (But.of_below q5)⟩) q) (jbz c0 c3 (qep hc' s) hck (by omega) ho.a)) ?_
 rintro xd wd ⟨d0, d3, d9, hp, bd⟩
 have hd : SwW n0 wd W n cs w.heap.size wc'.heap.size (qf9 o.a cs.length) o c := ⟨hc'.idle bd, hp, hck, fun ho => by have := ((hc'.law.each c (List.mem_of_getElem? hck)).lo _ ho).2; omega⟩
 have pd : But (fun b => n0 ≤ b) w wd := pc'.trans (bd.mono fun _ => False.elim)
 refine qf.seq (qf.seq ?_)
 refine qf.jn (R := fun x w' => FrX W w.heap.size wc'.heap.size o.k x ∧ Same wd w') ja6 (fun _ w1 wc s h => ⟨h.1, h.2.trans s⟩) (fun wc s => Code.wp_mono (fun e a w1 q => Jn.mono (fun x w2 ⟨q1, q3⟩ => ⟨q1, q3 ▸ s⟩) q) (q3e d0 d3 d9 (yg hd s))) ?_
 rintro xe we ⟨hxe, se⟩
 refine qf.block ?_
 refine qu0 hxe (yg hd se) ho hk hn (fun b hb => ?_) (pd.trans (But.same' se))
 have := (pd.trans (But.same' se)).size
 have := hN b hb
 omega
end
end Go.Proofs.YtkpekiajdlolnabGreat.Ph
namespace Go.Proofs.YtkpekiajdlolnabGreat
open Go.RowKit Go.Maps
section
variable {n0 : Nat} {CS : qji} {w : World}
theorem qbu.cells {k m cp : Nat} {a : Addr} (h : qbu w k (.slice (some a) m cp)) : ∀ i, i < m → w.cell? ⟨a.block, i * 2, none⟩ = some (.string mnK) ∧ w.cell? ⟨a.block, i * 2 + 1, none⟩ = some (.string (mnV k)) := fun i hi => by
 obtain ⟨m', ys, hr, hm⟩ := h
 obtain ⟨sa, cp', e⟩ := xq hr
 injection e with e1 e2 e3
 subst e2
 obtain ⟨q1, q2⟩ := hm i hi
 have d1 := hr.cells (g := a.block) rfl _ _ q1
 have d2 := hr.cells (g := a.block) rfl _ _ q2
 rw [Addr.add_lit, Nat.zero_add] at d1 d2
 exact ⟨d1, d2⟩
theorem qbu.shape {k : Nat} {l : Value} (h : qbu w k l) : (l = .slice none 0 0) ∨ ∃ g m cp, l = .slice (some ⟨g, 0, none⟩) m cp ∧ m ≤ 9223372036854775807 := by
 obtain ⟨m, ys, hr, _⟩ := h
 rcases hr.2 with ⟨e, _⟩ | ⟨g, cap, cur, e, _, _, h4, h5, _⟩
 ·exact .inl e
 ·exact .inr ⟨g, m, cap, e, by unfold maxLen at h5; omega⟩
theorem q1s {W n : Nat} {S : Value} (h : qbw n0 w W CS S n) (hn : n ≤ 4398046511103) :
  Calls Tryz.prog 16 #[.pointer (some ⟨W, 0, none⟩)] w fun e w' => e = .returned (.bool true) ∧ Below w.heap.size w w' := by
 obtain ⟨c1, c2, c3⟩ := h.cell
 obtain ⟨xs, hx⟩ := h.row
 obtain ⟨sa, cp, rfl⟩ := xq hx
 have hxl : xs.length = n := by have := hx.1; omega
 have hk : ∀ k l, xs[k]? = some l → qbu w k l := fun k l hl => h.kept k l (by rw [qaa hx]; exact hl)
 have hsa : ∀ j, j < n → ∃ g, sa = some ⟨g, 0, none⟩ := fun j hj => by
  rcases hx.2 with ⟨h, hz⟩ | ⟨g, cap, cur, h, _⟩
  ·omega
  ·injection h with h1; exact ⟨g, h1⟩
 have HX := Lib.hid hx
 have HXL := Lib.hid hxl
 have HK := Lib.hid hk
 have HSA := Lib.hid hsa
 clear h hx hxl hk hsa
 go_enter Tryz.func16, Tryz.ntmps16
 go_wp2
 go_loopw [12] (fun x wr => ∃ k : Nat, k ≤ n ∧ x = .int .i64 k ∧ Hid (Below w.heap.size w wr)) (fun x _ => n - (intOf x).toNat)
 case atStart => exact ⟨0, xzl _, rfl, Lib.hid (jo _ _)⟩
 case round =>
  obtain ⟨k, hk, rfl, HB⟩ := hrel
  by_cases hkn : k < n
  ·obtain ⟨g0, rfl⟩ := HSA.out k hkn
   obtain ⟨l, hl⟩ : ∃ l, xs[k]? = some l := ⟨_, List.getElem?_eq_getElem (by have := HXL.out; omega)⟩
   have d0 := HX.out.cells (g := g0) rfl k l (by exact hl)
   rw [Addr.add_lit, Nat.zero_add] at d0
   have d1 := (HB.out.cell (xbl w _ d0)).trans d0
   have HL := Lib.hid (HK.out k l hl)
   clear d0 hl
   rcases HL.out.shape with rfl | ⟨g, m, cp', rfl, hm⟩
   ·go_wp2
    refine wp_loop_rounds 1 ?_
    rw [rounds_succ]
    go_wp2
    go_roundw
    case rel => exact ⟨k + 1, by omega, rfl, HB⟩
    case measure => simp [intOf]; omega
   ·go_wp2
    go_loopw [19] (fun x wr2 => ∃ j : Nat, j ≤ m ∧ x = .int .i64 j ∧ Hid (Below w.heap.size w wr2)) (fun x _ => m - (intOf x).toNat)
    case atStart => exact ⟨0, xzl _, rfl, HB⟩
    case round =>
     obtain ⟨j, hj, rfl, HB2⟩ := hrel
     by_cases hjm : j < m
     ·obtain ⟨q1, q2⟩ := HL.out.cells j hjm
      have q1 := (HB2.out.cell (xbl w _ q1)).trans q1
      have q2 := (HB2.out.cell (xbl w _ q2)).trans q2
      generalize hxk : mnK = xk at q1
      generalize hxv : mnV k = xv at q2
      have HXX := Lib.hid (And.intro hxk hxv)
      clear hxk hxv
      go_wp2
      have HC0 := Lib.hid ((HB2.out.alloc HB2.out.size (.cells #[.string xk, .string xv] 74)))
      have p1 : (wr.alloc (.cells #[.string xk, .string xv] 74)).cell? ⟨wr.heap.size, 0, none⟩ = some (.string xk) := by go_simp
      have p2 : (wr.alloc (.cells #[.string xk, .string xv] 74)).cell? ⟨wr.heap.size, 1, none⟩ = some (.string xv) := by go_simp
      generalize wr.alloc (.cells #[.string xk, .string xv] 74) = wb at *
      generalize wr.heap.size = bx at *
      go_region_held3 (fun w' => w'.cell? ⟨bx, 0, none⟩ = some (.string xk) ∧ w'.cell? ⟨bx, 1, none⟩ = some (.string xv) ∧ Hid (Below w.heap.size w w'))
       (first | exact ⟨p1, p2, Lib.hid HC0.out.drew⟩ | exact ⟨r1, r2, HC2⟩)
       (first | (go_at_call 38; refine (qq2 k (by omega)).mono ?_; rintro e w2 ⟨⟨ma, mb, hmm, rfl⟩, hb2⟩; obtain rfl : ma = xk := hmm.1.trans HXX.out.1; obtain rfl : mb = xv := hmm.2.trans HXX.out.2; clear hmm; obtain ⟨t1, t2, t3⟩ : _ ∧ _ ∧ Hid (Below w.heap.size w _) := (by assumption); have r1 := (hb2.cell (xbl _ _ t1)).trans t1; have r2 := (hb2.cell (xbl _ _ t2)).trans t2; have HC2 := Lib.hid (t3.out.trans (hb2.mono t3.out.size)); clear hb2 t1 t2 t3))
      go_wp2
      go_roundw
      case rel => exact ⟨j + 1, by omega, rfl, HC2⟩
      case measure => simp [intOf]; omega
     ·obtain rfl : j = m := by omega
      go_wp2
      go_roundw
      case rel => exact ⟨k + 1, by omega, rfl, HB2⟩
      case measure => simp [intOf]; omega
  ·obtain rfl : k = n := by omega
   go_wp2
   go_ret
   exact ⟨rfl, HB.out⟩
end
end Go.Proofs.YtkpekiajdlolnabGreat
namespace Go.Proofs.YtkpekiajdlolnabGreat.Ph
open Go.Conc Go.ConcN Go.RowKit Go.Maps Go.Conc.Lib Go Sim
def StA (n0 : Nat) (w0 : World) (k : Nat) (w : World) : Prop := ∃ n cs, jr n0 w n0 n cs ∧ (∀ c ∈ cs, Even n c) ∧ (n ≤ k ∧ n ≤ 262144) ∧ cs.length ≤ k ∧ But (fun b => n0 ≤ b) w0 w
theorem qt8 (w : World) : jr w.heap.size (qh2 w) w.heap.size 0 [] := by
 have hb := heap_alloc_new w (.cells #[.slice none 0 0, .slice none 0 0, .slice none 0 0, .bool false] 36)
 exact ⟨jy _, ⟨⟨.slice none 0 0, .slice none 0 0, fun b => ∃ c ∈ ([] : List Cst), c.own b⟩, .slice none 0 0, 0, [], ⟨⟨⟨_, hb, rfl, rfl, rfl, rfl⟩, ⟨[], World.ownsRow_nil _ _ _ _⟩, fun k l hk => (by cases hk), fun g ⟨l, hl, _⟩ => (by cases hl)⟩, World.ownsRow_nil _ _ _ _, World.ownsRow_nil _ _ _ _, ⟨jy _, jy _⟩, rfl, fun b _ ⟨c, hc, _⟩ => (by cases hc)⟩⟩, fun c hc => (by cases hc), .nil⟩
theorem qq4 (w : World) : But (fun b => w.heap.size ≤ b) w (qh2 w) := But.of_below ((jo _ _).alloc (jy _) _)
theorem StA.new (w : World) : StA w.heap.size w 0 (qh2 w) := ⟨0, [], qt8 w, fun c hc => (by cases hc), ⟨jy _, xzl _⟩, jy _, qq4 w⟩
theorem q57 {L : Nat} {os : Nat → OpV} {c : Int} {w0 : World} (hok : ∀ i, i < L → OpV.Ok (os i)) (hL : L ≤ 262144) (h1 : c ≠ 0) (h5 : c ≤ 9) : qia w0.heap.size L os c w0.heap.size w0 (StA w0.heap.size w0) := {
 idle := fun k w w' ⟨n, cs, a1, a2, a3, a4, a5⟩ hb => ⟨n, cs, a1.idle hb, a2, a3, a4, a5.trans (hb.mono fun _ => False.elim)⟩
 keep := fun k w ⟨n, cs, a1, a2, a3, a4, a5⟩ => a5
 skip := fun k w ⟨n, cs, a1, a2, a3, a4, a5⟩ => ⟨n, cs, a1, a2, ⟨by omega, a3.2⟩, by omega, a5⟩
 looks := fun hc k w ⟨n, cs, a1, a2, a3, a4, a5⟩ => by
  obtain ⟨CS, S, m, bs, hw⟩ := a1.b
  exact (q1s hw.ls (by have := hw.le.1; omega)).mono fun e w' ⟨h1, h2⟩ => ⟨h1, But.of_below h2⟩
 step := fun k w N kv hk hpl ⟨n, cs, a1, a2, a3, a4, a5⟩ hN => by
  have hkk : (os k).k ≤ 9 := by
   rcases hpl with h | h
   ·omega
   ·have hc2 : kr c ≤ 2 := by
     unfold kr
     split
     ·omega
     ·first | omega | (rw [if_pos h5]; omega)
    have h := Int.le_trans h hc2
    unfold kr at h
    split at h
    ·omega
    ·split at h
     ·assumption
     ·split at h <;> omega
  have := q6s (N := N) (kv := kv) (o := os k) a1 a2 (hok k hk) hkk (by omega) (by omega) fun b hb => xll (hN b hb) a5.size
  intro ks
  refine (this ks).mono fun fr w' ⟨r1, v, r2, r3, r4, n', cs', r5, r6, r7, r8, r9⟩ => ⟨r1, v, r2, r3, r4, n', cs', r5, r6, ⟨by omega, by omega⟩, by omega, a5.trans r9⟩ }
end Go.Proofs.YtkpekiajdlolnabGreat.Ph
