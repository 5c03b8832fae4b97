/-
 PROVED IN PARTS: text 7 of 8 of the carrying ground of the claim (see each part's own remark). Conditions: those that each theorem names.
-/
import Derived.Test.YtkpekiajdlolnabGreatM06
import Derived.Test.YtkpekiajdlolnabGreatM05
import Derived.Maps.AppendAt
import Derived.Deep.RegionHeld3
import Derived.Test.YtkpekiajdlolnabGreatM04
import Derived.Sort.MapsRangeIn
set_option linter.unusedVariables false
set_option linter.unusedSimpArgs false
set_option maxRecDepth 100000
set_option maxHeartbeats 4000000
namespace Go.Proofs.YtkpekiajdlolnabGreat.Ph
open Go.Conc Go.ConcN Go.RowKit Go.Maps Go.Conc.Lib Go Sim
section
variable {e : Operand → Value} {o : Oper} {p q r s : Operand} {v : Value} {g f k : Nat} {w : World} {i j l : Int} {sa : Option Addr} {n cp : Nat}
theorem qkl (h : o.op = .fieldAddr 101 p 1) (hp : e p = .pointer (some ⟨g, 0, none⟩)) : (execOp e o).run Tryz.prog w = .ok (.value (.pointer (some ⟨g, 1, none⟩))) w := by
 have hu := Tryz.underlying101
 unfold execOp
 simp [go_sem, h, hp, hu]
theorem qzb (h : o.op = .fieldAddr 101 p 3) (hp : e p = .pointer (some ⟨g, 0, none⟩)) : (execOp e o).run Tryz.prog w = .ok (.value (.pointer (some ⟨g, 3, none⟩))) w := by
 have hu := Tryz.underlying101
 unfold execOp
 simp [go_sem, h, hp, hu]
theorem qne {n cap : Nat} (hn : n < 4) (h : o.op = .indexAddr 98 p q) (hp : e p = .slice (some ⟨g, 0, none⟩) 4 cap) (hq : e q = .int .i64 n) : (execOp e o).run Tryz.prog w = .ok (.value (.pointer (some ⟨g, n * 3, none⟩))) w := by
 have hu := Tryz.underlying98
 have hS := Tryz.sizeOf104
 have h0 : ((n : Int) < 4) := by omega
 have h1 : (0 : Int) ≤ n := by omega
 unfold execOp
 simp [go_sem, h, hp, hq, hu, hS, h0, h1, hn]
theorem qrj {i j l : Int} {sa : Option Addr} {n cp : Nat} (h : o.op = .build 110 #[(0, p), (1, q), (2, r), (3, s)]) (hp : e p = .int .i64 i) (hq : e q = .int .i64 j) (hr : e r = .int .i64 l) (hs : e s = .slice sa n cp) : (execOp e o).run Tryz.prog w = .ok (.value (.agg #[.int .i64 i, .int .i64 j, .int .i64 l, .slice sa n cp, .slice none 0 0, .string ⟨#[]⟩, .int .i64 0, .int .i64 0, .int .i64 0, .bool false])) w := by
 unfold execOp
 simp [go_sem, h, hp, hq, hr, hs]
theorem qy8 {i j l : Int} {sa : Option Addr} {n cp : Nat} (h : o.op = .box 110 p) (hp : e p = .agg #[.int .i64 i, .int .i64 j, .int .i64 l, .slice sa n cp, .slice none 0 0, .string ⟨#[]⟩, .int .i64 0, .int .i64 0, .int .i64 0, .bool false]) : (execOp e o).run Tryz.prog w = .ok (.value (.pointer (some ⟨w.heap.size, 0, none⟩))) (w.alloc (.cells #[.int .i64 i, .int .i64 j, .int .i64 l, .slice sa n cp, .slice none 0 0, .string ⟨#[]⟩, .int .i64 0, .int .i64 0, .int .i64 0, .bool false] 110)) := by
 have hA := Tryz.isAgg110
 unfold execOp
 simp [go_sem, h, hp, hA]
theorem qu8 {a : Act} {w : World} {x : Operand} {base m c : Nat} {news : List Value} {sa : Option Addr} {next : Act → World → Prop} {Q : Exit → Act → World → Prop} (ho : o.op = .call { callee := .builtin .append, args := #[.const (.slice none 0 0), x], argTypes := #[47, 47] })
  (ex : a.eval x = .slice sa m c) (hs : Src w sa m news) (hb : m ≤ 1073741820) (hbase : base ≤ w.heap.size) (h : ∀ v' w', w'.ownsRow base 74 2 v' m news → w.grownBy w' none → next (a.put o.dst v') w') : o.wp Tryz.prog a w next Q := by
 obtain ⟨v', w', hr, h2, h3, h4⟩ := qst (c := c) (v := .slice none 0 0) (n := 0) (xs := []) o.type (World.ownsRow_nil w base _ _) (qcf.nil w) hs (by omega) hbase
 have e0 : a.eval (.const (.slice none 0 0)) = .slice none 0 0 := rfl
 unfold Oper.wp execOp
 simp only [ho, resolve, invoke, builtin, Sem.run_bind, Sem.run_pure, Result.andThen_ok, List.map_toArray, List.map_cons, List.map_nil, e0, ex, hr]
 rw [Nat.zero_add] at h2
 exact h v' w' h2 h4
theorem q2s {w : World} {base cp : Nat} {sa : Option Addr} {l : KV} (h : yh w base (.slice sa l.length cp) l) : Src w sa l.length (flat l) := by
 rcases h.1.2 with ⟨e, hz⟩ | ⟨g, cap, cur, e, _⟩
 ·injection e with e1
  exact ⟨by rw [qdf], fun ad e2 => (by rw [e1] at e2; cases e2), fun _ => hz, fun u hu => qjy hu⟩
 ·injection e with e1 e2 e3
  refine ⟨by rw [qdf], fun ad e4 j u hj => ?_, fun e4 => (by rw [e1] at e4; cases e4), fun u hu => qjy hu⟩
  rw [e1] at e4; cases e4
  exact h.1.cells (g := g) (by rw [e1]; rfl) j u hj
end
noncomputable def eg1 : Array Oper := match Tryz.f59.body with
 |some (.seq _ a) => rg a
 |_ => #[]
theorem jao (y : Nat → Value) : lay 44 y = #[y 0, y 1, y 2, y 3, y 4, y 5, y 6, y 7, y 8, y 9, y 10, y 11, y 12, y 13, y 14, y 15, y 16, y 17, y 18, y 19, y 20, y 21, y 22, y 23, y 24, y 25, y 26, y 27, y 28, y 29, y 30, y 31, y 32, y 33, y 34, y 35, y 36, y 37, y 38, y 39, y 40, y 41, y 42, y 43] := rfl
noncomputable def ego (k : Nat) : Oper := eg1.getD k ⟨none, .alloc 0, 0, "", #[], none⟩
theorem q07 : qha eg1 44 = true := by kernel_rfl
section
variable {ml sb n cap id ow to cp : Nat} {sa : Option Addr} {L : KV} {w0 : World}
def Keg (ml sb n cap id ow to cp : Nat) (sa : Option Addr) (L : KV) (w0 : World) : Nat → Value → World → Prop
 |0, u, _ => u = .pointer (some ⟨ml, 0, none⟩)
 |1, u, _ => u = .pointer (some ⟨ml, 0, none⟩)
 |2, u, _ => u = .pointer (some ⟨ml, 1, none⟩)
 |3, u, _ => u = .slice (some ⟨sb, 0, none⟩) 4 cap
 |4, u, _ => u = .int .i64 n
 |5, u, _ => u = .pointer (some ⟨ml, 0, none⟩)
 |6, u, _ => u = .pointer (some ⟨ml, 0, none⟩)
 |7, u, _ => u = .pointer (some ⟨ml, 3, none⟩)
 |8, u, _ => u = .int .i64 id
 |9, u, _ => u = .pointer (some ⟨ml, 0, none⟩)
 |10, u, _ => u = .pointer (some ⟨ml, 0, none⟩)
 |11, u, _ => u = .pointer (some ⟨ml, 1, none⟩)
 |12, u, _ => u = .slice (some ⟨sb, 0, none⟩) 4 cap
 |13, u, _ => u = .int .i64 n
 |14, u, _ => u = .pointer (some ⟨sb, n * 3, none⟩)
 |15, u, _ => u = .pointer (some ⟨sb, n * 3, none⟩)
 |16, u, _ => u = .int .i64 ow
 |17, u, _ => u = .int .i64 to
 |18, u, _ => u = .pointer (some ⟨ml, 0, none⟩)
 |19, u, _ => u = .pointer (some ⟨ml, 0, none⟩)
 |20, u, _ => u = .pointer (some ⟨ml, 1, none⟩)
 |21, u, _ => u = .slice (some ⟨sb, 0, none⟩) 4 cap
 |22, u, _ => u = .int .i64 n
 |23, u, _ => u = .pointer (some ⟨sb, n * 3, none⟩)
 |24, u, _ => u = .pointer (some ⟨sb, n * 3 + 1, none⟩)
 |25, u, _ => u = .slice sa L.length cp
 |26, u, w => ∃ s c, u = .slice s L.length c ∧ w.ownsRow w0.heap.size 74 2 u L.length (flat L)
 |27, u, w => ∃ s c, u = .agg #[.int .i64 id, .int .i64 ow, .int .i64 to, (.slice s L.length c), .slice none 0 0, .string ⟨#[]⟩, .int .i64 0, .int .i64 0, .int .i64 0, .bool false] ∧ w.ownsRow w0.heap.size 74 2 (.slice s L.length c) L.length (flat L)
 |28, u, w => ∃ s c g, u = .pointer (some ⟨g, 0, none⟩) ∧ w0.heap.size ≤ g ∧ w.heap[g]? = some (.cells #[.int .i64 id, .int .i64 ow, .int .i64 to, (.slice s L.length c), .slice none 0 0, .string ⟨#[]⟩, .int .i64 0, .int .i64 0, .int .i64 0, .bool false] 110 (0, 0)) ∧ w.ownsRow w0.heap.size 74 2 (.slice s L.length c) L.length (flat L)
 |29, u, _ => u = .pointer (some ⟨sb, n * 3, none⟩)
 |30, u, _ => u = .pointer (some ⟨sb, n * 3 + 2, none⟩)
 |_, _, _ => True
theorem qlk (j : Nat) (u : Value) (w w' : World) (hb : Below w.heap.size w w') (h : Keg ml sb n cap id ow to cp sa L w0 j u w) : Keg ml sb n cap id ow to cp sa L w0 j u w' := by
 match j, h with
 |0, h => exact h
 |1, h => exact h
 |2, h => exact h
 |3, h => exact h
 |4, h => exact h
 |5, h => exact h
 |6, h => exact h
 |7, h => exact h
 |8, h => exact h
 |9, h => exact h
 |10, h => exact h
 |11, h => exact h
 |12, h => exact h
 |13, h => exact h
 |14, h => exact h
 |15, h => exact h
 |16, h => exact h
 |17, h => exact h
 |18, h => exact h
 |19, h => exact h
 |20, h => exact h
 |21, h => exact h
 |22, h => exact h
 |23, h => exact h
 |24, h => exact h
 |25, h => exact h
 |26, ⟨s, c, h1, h2⟩ => exact ⟨s, c, h1, qj h2 fun q hq => hb.block q (h2.lt q hq).2⟩
 |27, ⟨s, c, h1, h2⟩ => exact ⟨s, c, h1, qj h2 fun q hq => hb.block q (h2.lt q hq).2⟩
 |28, ⟨s, c, g, h1, h2, h3, h4⟩ => exact ⟨s, c, g, h1, h2, (hb.block g (zx h3).1).trans h3, qj h4 fun q hq => hb.block q (h4.lt q hq).2⟩
 |29, h => exact h
 |30, h => exact h
 |i + 31, _ => trivial
theorem q81 {w : World} {a : Act} {Q : Exit → Act → World → Prop} (hsz : a.tmps.size = 44) (hdf : a.defers = []) (h0 : a.tmps.getD 0 undef = .pointer (some ⟨ml, 0, none⟩)) (h1 : a.tmps.getD 1 undef = .int .i64 n) (h2 : a.tmps.getD 2 undef = .int .i64 to)
  (hn : n < 4) (cI : w.cell? ⟨ml, 3, none⟩ = some (.int .i64 id)) (cS : w.cell? ⟨ml, 1, none⟩ = some (.slice (some ⟨sb, 0, none⟩) 4 cap)) (cO : w.cell? ⟨sb, n * 3, none⟩ = some (.int .i64 ow)) (cL : w.cell? ⟨sb, n * 3 + 1, none⟩ = some (.slice sa L.length cp)) (cV : ∃ v, w.cell? ⟨sb, n * 3 + 2, none⟩ = some v) (fV : w.frozen? ⟨sb, n * 3 + 2, none⟩ = false) (hr : yh w 0 (.slice sa L.length cp) L) (hL : L.length ≤ 1073741820)
  (hQ : ∀ y w1 g s c, (∀ s, (∀ (j : Nat) o, eg1[j]? = some o → o.dst ≠ some s) → y s = a.tmps.getD s undef) → Below w.heap.size w w1 → w.heap.size ≤ g → w1.heap[g]? = some (.cells #[.int .i64 id, .int .i64 ow, .int .i64 to, (.slice s L.length c), .slice none 0 0, .string ⟨#[]⟩, .int .i64 0, .int .i64 0, .int .i64 0, .bool false] 110 (0, 0)) → w1.ownsRow w.heap.size 74 2 (.slice s L.length c) L.length (flat L) → Q .normal ⟨lay 44 y, []⟩ (w1.setCell ⟨sb, n * 3 + 2, none⟩ (.pointer (some ⟨g, 0, none⟩)))) : (Code.region 1 eg1 true).wp Tryz.prog Q a w := by
 have ltl := xbl w _ cI
 have lts := xbl w _ cO
 refine qa5 (n := 44) (x0 := fun s => a.tmps.getD s undef) (turn := 32) (KN := Keg ml sb n cap id ow to cp sa L w) (J := fun _ w1 => Below w.heap.size w w1) (by kernel_rfl) q07 ⟨_, ?_, fun _ => rfl⟩ (Below.drew (jo _ _)) ?_ ?_
 ·obtain ⟨t, df⟩ := a
  obtain rfl : df = [] := hdf
  rw [qel hsz]
 ·intro j o d y w1 b hbt ho hd hy qz hJ
  have old : ∀ q, q < w.heap.size → w1.heap[q]? = w.heap[q]? := fun q h1 => hJ.block q h1
  have y0 : y 0 = .pointer (some ⟨ml, 0, none⟩) := (hy 0 (qcy (by kernel_rfl))).trans h0
  have y1 : y 1 = .int .i64 n := (hy 1 (qcy (by kernel_rfl))).trans h1
  have y2 : y 2 = .int .i64 to := (hy 2 (qcy (by kernel_rfl))).trans h2
  match j, ho with
  |0, ho =>
   obtain rfl := qw (a := ego 0) rfl ho
   obtain rfl := qw (a := 13) rfl hd
   exact qh (run_move rfl (qp y0)) ⟨_, qc rfl, rfl, hJ, fun _ _ _ h => h⟩
  |1, ho =>
   obtain rfl := qw (a := ego 1) rfl ho
   obtain rfl := qw (a := 14) rfl hd
   have k0 := qz 0 (ego 0) 13 rfl rfl (qg rfl)
   exact qh (ve rfl (qp k0)) ⟨_, qc rfl, rfl, hJ, fun _ _ _ h => h⟩
  |2, ho =>
   obtain rfl := qw (a := ego 2) rfl ho
   obtain rfl := qw (a := 15) rfl hd
   have k1 := qz 1 (ego 1) 14 rfl rfl (qg rfl)
   exact qh (qkl rfl (qp k1)) ⟨_, qc rfl, rfl, hJ, fun _ _ _ h => h⟩
  |3, ho =>
   obtain rfl := qw (a := ego 3) rfl ho
   obtain rfl := qw (a := 16) rfl hd
   have k2 := qz 2 (ego 2) 15 rfl rfl (qg rfl)
   exact qh (jg (ty := 98) rfl (qp k2) (by simp [isAgg, Tryz.underlying98]) ((xcb (old ml ltl)).trans cS)) ⟨_, qc rfl, rfl, hJ, fun _ _ _ h => h⟩
  |4, ho =>
   obtain rfl := qw (a := ego 4) rfl ho
   obtain rfl := qw (a := 17) rfl hd
   exact qh (run_move rfl (qp y1)) ⟨_, qc rfl, rfl, hJ, fun _ _ _ h => h⟩
  |5, ho =>
   obtain rfl := qw (a := ego 5) rfl ho
   obtain rfl := qw (a := 18) rfl hd
   exact qh (run_move rfl (qp y0)) ⟨_, qc rfl, rfl, hJ, fun _ _ _ h => h⟩
  |6, ho =>
   obtain rfl := qw (a := ego 6) rfl ho
   obtain rfl := qw (a := 19) rfl hd
   have k5 := qz 5 (ego 5) 18 rfl rfl (qg rfl)
   exact qh (ve rfl (qp k5)) ⟨_, qc rfl, rfl, hJ, fun _ _ _ h => h⟩
  |7, ho =>
   obtain rfl := qw (a := ego 7) rfl ho
   obtain rfl := qw (a := 20) rfl hd
   have k6 := qz 6 (ego 6) 19 rfl rfl (qg rfl)
   exact qh (qzb rfl (qp k6)) ⟨_, qc rfl, rfl, hJ, fun _ _ _ h => h⟩
  |8, ho =>
   obtain rfl := qw (a := ego 8) rfl ho
   obtain rfl := qw (a := 21) rfl hd
   have k7 := qz 7 (ego 7) 20 rfl rfl (qg rfl)
   exact qh (jg (ty := 3) rfl (qp k7) (by simp [isAgg, Tryz.underlying3]) ((xcb (old ml ltl)).trans cI)) ⟨_, qc rfl, rfl, hJ, fun _ _ _ h => h⟩
  |9, ho =>
   obtain rfl := qw (a := ego 9) rfl ho
   obtain rfl := qw (a := 22) rfl hd
   exact qh (run_move rfl (qp y0)) ⟨_, qc rfl, rfl, hJ, fun _ _ _ h => h⟩
  |10, ho =>
   obtain rfl := qw (a := ego 10) rfl ho
   obtain rfl := qw (a := 23) rfl hd
   have k9 := qz 9 (ego 9) 22 rfl rfl (qg rfl)
   exact qh (ve rfl (qp k9)) ⟨_, qc rfl, rfl, hJ, fun _ _ _ h => h⟩
  |11, ho =>
   obtain rfl := qw (a := ego 11) rfl ho
   obtain rfl := qw (a := 24) rfl hd
   have k10 := qz 10 (ego 10) 23 rfl rfl (qg rfl)
   exact qh (qkl rfl (qp k10)) ⟨_, qc rfl, rfl, hJ, fun _ _ _ h => h⟩
  |12, ho =>
   obtain rfl := qw (a := ego 12) rfl ho
   obtain rfl := qw (a := 25) rfl hd
   have k11 := qz 11 (ego 11) 24 rfl rfl (qg rfl)
   exact qh (jg (ty := 98) rfl (qp k11) (by simp [isAgg, Tryz.underlying98]) ((xcb (old ml ltl)).trans cS)) ⟨_, qc rfl, rfl, hJ, fun _ _ _ h => h⟩
  |13, ho =>
   obtain rfl := qw (a := ego 13) rfl ho
   obtain rfl := qw (a := 26) rfl hd
   exact qh (run_move rfl (qp y1)) ⟨_, qc rfl, rfl, hJ, fun _ _ _ h => h⟩
  |14, ho =>
   obtain rfl := qw (a := ego 14) rfl ho
   obtain rfl := qw (a := 27) rfl hd
   have k12 := qz 12 (ego 12) 25 rfl rfl (qg rfl)
   have k13 := qz 13 (ego 13) 26 rfl rfl (qg rfl)
   exact qh (qne hn rfl (qp k12) (qp k13)) ⟨_, qc rfl, rfl, hJ, fun _ _ _ h => h⟩
  |15, ho =>
   obtain rfl := qw (a := ego 15) rfl ho
   obtain rfl := qw (a := 28) rfl hd
   have k14 := qz 14 (ego 14) 27 rfl rfl (qg rfl)
   exact qh (qd4 0 (by decide) rfl (qp k14)) ⟨_, qc rfl, rfl, hJ, fun _ _ _ h => h⟩
  |16, ho =>
   obtain rfl := qw (a := ego 16) rfl ho
   obtain rfl := qw (a := 29) rfl hd
   have k15 := qz 15 (ego 15) 28 rfl rfl (qg rfl)
   exact qh (jg (ty := 3) rfl (qp k15) (by simp [isAgg, Tryz.underlying3]) ((xcb (old sb lts)).trans cO)) ⟨_, qc rfl, rfl, hJ, fun _ _ _ h => h⟩
  |17, ho =>
   obtain rfl := qw (a := ego 17) rfl ho
   obtain rfl := qw (a := 30) rfl hd
   exact qh (run_move rfl (qp y2)) ⟨_, qc rfl, rfl, hJ, fun _ _ _ h => h⟩
  |18, ho =>
   obtain rfl := qw (a := ego 18) rfl ho
   obtain rfl := qw (a := 31) rfl hd
   exact qh (run_move rfl (qp y0)) ⟨_, qc rfl, rfl, hJ, fun _ _ _ h => h⟩
  |19, ho =>
   obtain rfl := qw (a := ego 19) rfl ho
   obtain rfl := qw (a := 32) rfl hd
   have k18 := qz 18 (ego 18) 31 rfl rfl (qg rfl)
   exact qh (ve rfl (qp k18)) ⟨_, qc rfl, rfl, hJ, fun _ _ _ h => h⟩
  |20, ho =>
   obtain rfl := qw (a := ego 20) rfl ho
   obtain rfl := qw (a := 33) rfl hd
   have k19 := qz 19 (ego 19) 32 rfl rfl (qg rfl)
   exact qh (qkl rfl (qp k19)) ⟨_, qc rfl, rfl, hJ, fun _ _ _ h => h⟩
  |21, ho =>
   obtain rfl := qw (a := ego 21) rfl ho
   obtain rfl := qw (a := 34) rfl hd
   have k20 := qz 20 (ego 20) 33 rfl rfl (qg rfl)
   exact qh (jg (ty := 98) rfl (qp k20) (by simp [isAgg, Tryz.underlying98]) ((xcb (old ml ltl)).trans cS)) ⟨_, qc rfl, rfl, hJ, fun _ _ _ h => h⟩
  |22, ho =>
   obtain rfl := qw (a := ego 22) rfl ho
   obtain rfl := qw (a := 35) rfl hd
   exact qh (run_move rfl (qp y1)) ⟨_, qc rfl, rfl, hJ, fun _ _ _ h => h⟩
  |23, ho =>
   obtain rfl := qw (a := ego 23) rfl ho
   obtain rfl := qw (a := 36) rfl hd
   have k21 := qz 21 (ego 21) 34 rfl rfl (qg rfl)
   have k22 := qz 22 (ego 22) 35 rfl rfl (qg rfl)
   exact qh (qne hn rfl (qp k21) (qp k22)) ⟨_, qc rfl, rfl, hJ, fun _ _ _ h => h⟩
  |24, ho =>
   obtain rfl := qw (a := ego 24) rfl ho
   obtain rfl := qw (a := 37) rfl hd
   have k23 := qz 23 (ego 23) 36 rfl rfl (qg rfl)
   exact qh (qd4 1 (by decide) rfl (qp k23)) ⟨_, qc rfl, rfl, hJ, fun _ _ _ h => h⟩
  |25, ho =>
   obtain rfl := qw (a := ego 25) rfl ho
   obtain rfl := qw (a := 38) rfl hd
   have k24 := qz 24 (ego 24) 37 rfl rfl (qg rfl)
   exact qh (jg (ty := 47) rfl (qp k24) (by simp [isAgg, Tryz.underlying47]) ((xcb (old sb lts)).trans cL)) ⟨_, qc rfl, rfl, hJ, fun _ _ _ h => h⟩
  |26, ho =>
   obtain rfl := qw (a := ego 26) rfl ho
   obtain rfl := qw (a := 39) rfl hd
   have k25 := qz 25 (ego 25) 38 rfl rfl (qg rfl)
   refine qu8 (base := w.heap.size) rfl (qp k25) (q2s (hr.block fun q hq => old q (hr.1.lt q hq).2)) hL hJ.size ?_
   intro v' w2 hr2 hg2
   obtain ⟨s, c, rfl⟩ := xq hr2
   have hb : Below w1.heap.size w1 w2 := (jo _ _).grown hg2 (jy _) fun q hq => by cases hq
   exact ⟨_, qc rfl, ⟨s, c, rfl, hr2⟩, hJ.trans (hb.mono hJ.size), fun i u _ h => qlk i u _ _ hb h⟩
  |27, ho =>
   obtain rfl := qw (a := ego 27) rfl ho
   obtain rfl := qw (a := 40) rfl hd
   have k8 := qz 8 (ego 8) 21 rfl rfl (qg rfl)
   have k16 := qz 16 (ego 16) 29 rfl rfl (qg rfl)
   have k17 := qz 17 (ego 17) 30 rfl rfl (qg rfl)
   obtain ⟨s, c, k26, r26⟩ : Keg ml sb n cap id ow to cp sa L w 26 (y 39) w1 := qz 26 (ego 26) 39 rfl rfl (qg rfl)
   exact qh (qrj rfl (qp k8) (qp k16) (qp k17) (qp k26)) ⟨_, qc rfl, ⟨s, c, rfl, k26 ▸ r26⟩, hJ, fun _ _ _ h => h⟩
  |28, ho =>
   obtain rfl := qw (a := ego 28) rfl ho
   obtain rfl := qw (a := 41) rfl hd
   obtain ⟨s, c, k27, r27⟩ : Keg ml sb n cap id ow to cp sa L w 27 (y 40) w1 := qz 27 (ego 27) 40 rfl rfl (qg rfl)
   have hbl : Below w1.heap.size w1 (w1.alloc (.cells #[.int .i64 id, .int .i64 ow, .int .i64 to, (.slice s L.length c), .slice none 0 0, .string ⟨#[]⟩, .int .i64 0, .int .i64 0, .int .i64 0, .bool false] 110)) := (jo _ _).alloc (jy _) _
   exact qh (qy8 rfl (qp k27)) ⟨_, qc rfl, ⟨s, c, w1.heap.size, rfl, hJ.size, heap_alloc_new _ _, qj r27 fun q hq => hbl.block q (r27.lt q hq).2⟩, hJ.trans (hbl.mono hJ.size), fun i u _ h => qlk i u _ _ hbl h⟩
  |29, ho =>
   obtain rfl := qw (a := ego 29) rfl ho
   obtain rfl := qw (a := 42) rfl hd
   have k3 := qz 3 (ego 3) 16 rfl rfl (qg rfl)
   have k4 := qz 4 (ego 4) 17 rfl rfl (qg rfl)
   exact qh (qne hn rfl (qp k3) (qp k4)) ⟨_, qc rfl, rfl, hJ, fun _ _ _ h => h⟩
  |30, ho =>
   obtain rfl := qw (a := ego 30) rfl ho
   obtain rfl := qw (a := 43) rfl hd
   have k29 := qz 29 (ego 29) 42 rfl rfl (qg rfl)
   exact qh (qd4 2 (by decide) rfl (qp k29)) ⟨_, qc rfl, rfl, hJ, fun _ _ _ h => h⟩
  |31, ho =>
   obtain rfl := qw (a := ego 31) rfl ho
   exact absurd (show (ego 31).dst = none from rfl) (by rw [hd]; exact fun e => by cases e)
  |i + 32, ho => exact absurd ho (by rw [Array.getElem?_eq_none (show eg1.size ≤ i + 32 by show 32 ≤ i + 32; omega)]; exact fun e => by cases e)
 ·intro mm o y w1 hmm ho hy hk hJ
  obtain rfl : mm = 31 := by
   have : mm + 1 = 32 := hmm
   omega
  obtain rfl := qw (a := ego 31) rfl ho
  have ka : y 43 = .pointer (some ⟨sb, n * 3 + 2, none⟩) := hk 30 (ego 30) 43 rfl rfl
  obtain ⟨s, c, g, kb, q1, q2, q3⟩ : Keg ml sb n cap id ow to cp sa L w 28 (y 41) w1 := hk 28 (ego 28) 41 rfl rfl
  obtain ⟨v0, cV⟩ := cV
  have hlt := xbl w _ cV
  have hc1 : w1.cell? ⟨sb, n * 3 + 2, none⟩ = some v0 := (xcb (hJ.block _ hlt)).trans cV
  have hf1 : w1.frozen? ⟨sb, n * 3 + 2, none⟩ = false := (World.frozen?_of_block (hJ.block _ hlt)).trans fV
  have hr : (execOp (Act.mk (lay 44 y) []).eval (ego 31)).run Tryz.prog w1 = .ok .skip (w1.setCell ⟨sb, n * 3 + 2, none⟩ (.pointer (some ⟨g, 0, none⟩))) := by
   have e1 : (Act.mk (lay 44 y) []).eval (.tmp 43) = .pointer (some ⟨sb, n * 3 + 2, none⟩) := tmp (by decide) ka
   have e2 : (Act.mk (lay 44 y) []).eval (.tmp 41) = .pointer (some ⟨g, 0, none⟩) := tmp (by decide) kb
   have hop : (ego 31).op = .store 102 (.tmp 43) (.tmp 41) := rfl
   have hu := Tryz.underlying102
   generalize (Act.mk (lay 44 y) []).eval = ev at *
   unfold execOp
   simp [go_sem, hop, e1, e2, hu, isAgg, hc1, hf1]
  unfold Oper.wp
  rw [hr]
  exact hQ y w1 g s c hy hJ q1 q2 q3
end
section
variable {w w' : World} {cl db mb x n : Nat} {L : KV} {pv cv : Value} {ld : ByteArray} {m : Mv}
theorem qh1 {w3 w4 : World} {k v : ByteArray} {g : Bool} {cv' : Value} {X : KV} (he : xu L k.data.toList v.data.toList g = 0 ∧ chL L k.data.toList v.data.toList g = X) (hm : j4 w3 mb X) (hx : MX x n pv cv ld m w3) (h3 : But (· = mb) w w3)
  (h4 : MX x n pv cv' ld { m with cs := m.cs ++ [qde k v g] } w4 ∧ (∀ b, cv'.ownBlock = some b → cv.ownBlock = some b ∨ w3.heap.size ≤ b) ∧ But (fun q => q = x ∨ cv.ownBlock = some q) w3 w4) :
  qit w mb x n pv cv ld m (chL L k.data.toList v.data.toList g) (csL L m.cs k v g) (xu L k.data.toList v.data.toList g) (.returned (.int .i64 0)) w4 := by
 unfold csL
 rw [he.1, he.2, if_pos rfl]
 refine ⟨rfl, hm.block (h4.2.2.keep _ hm.lt ?_), ⟨cv', h4.1, fun b hb => (h4.2.1 b hb).imp id fun e => xlt h3.size e⟩, (h3.mono fun b e => .inl e).trans (h4.2.2.mono fun b e => .inr e)⟩
 rintro (e | e)
 ·exact qbm hm hx.b e.symm
 ·obtain ⟨c, hc⟩ := jq hx.r e
  exact qbm hm hc rfl
theorem qn7 (k v : ByteArray) (g : Bool) (n : Nat) (hn : n < 4) (hk : qaz k.data.toList = true) (hkn : ji k.data.toList = n) (hks : k.size ≤ maxLen) (hL : L.length ≤ 12) (hp : qbj w cl n db mb (some ⟨x, 0, none⟩) L) (hx : MX x n pv cv ld m w) (hs : m.sealed = false) (hcs : m.cs.length ≤ 1073741820) (hcl : cv.ownBlock ≠ some cl) :
  Calls Tryz.prog 40 #[.pointer (some ⟨cl, 0, none⟩), .agg #[.string k, .string v, .bool g]] w (qit w mb x n pv cv ld m (chL L k.data.toList v.data.toList g) (csL L m.cs k v g) (xu L k.data.toList v.data.toList g)) := by
 have hn3 : ((n : Int) < 4) := by omega
 have HX := Lib.hid hx
 have HS := Lib.hid hs
 have HCL := Lib.hid hcl
 clear hx hs hcl
 have HCB : Hid (cv.ownBlock ≠ some w.heap.size) := Lib.hid fun e => absurd (World.ownsRow.lt HX.out.r _ e).2 (Nat.lt_irrefl _)
 go_enter Tryz.func40, Tryz.ntmps40
 go_wp2_with (go_at_call 41; refine (qnb _ _ hk).mono ?_; rintro e w1 ⟨rfl, hb⟩; rw [hkn])
 obtain ⟨hc1, hb0⟩ := ChW.of hp hb
 clear hb hp
 have HB0 := Lib.hid hb0
 have HC1 := Lib.hid (And.intro hc1 (HX.out.below hb0))
 obtain ⟨c0, c1, c2, pd, pv', pm, pl⟩ := id hc1
 clear hb0 hc1 pl
 go_region_held3 (fun w' => w'.cell? ⟨cl, 1 + n * 3 + 1, none⟩ = some (.pointer (some ⟨db, 0, none⟩)) ∧ w'.cell? ⟨w.heap.size, 0, none⟩ = some (.string k) ∧ Hid (ChM w.heap.size cl n db mb x pv cv ld m L k v g w' ∧ Below w.heap.size w w'))
  (first | exact ⟨pd, c0, Lib.hid ⟨⟨HC1.out.1.drew, HC1.out.2.below (Below.drew (jo _ _))⟩, HB0.out.drew⟩⟩ | exact ⟨(HC2.out.1).1.d, (HC2.out.1).1.c0, HC2⟩)
  (first | (go_at_call 42; refine (ql2 (by assumption) hks).mono ?_; rintro e w2 ⟨rfl, hc2⟩; have HC2 := Lib.hid hc2; clear hc2))
 obtain ⟨has, hhas⟩ : ∃ b, (jd L k.data.toList).isSome = b := ⟨_, rfl⟩
 rw [hhas]
 have HF := Lib.hid hhas
 clear hhas
 generalize sv ((jd L k.data.toList).getD []) = gv
 obtain ⟨e0, e1, e2, ed, ev, em, el⟩ := HC2.out.1.1
 obtain ⟨q1, q2, q3⟩ := HC2.out.1.2.cells
 rw [HS.out] at q2
 have EL := Lib.hid el
 clear el
 by_cases hbig : 12 < v.size
 ·have HE := Lib.hid (qmt (L := L) (k := k.data.toList) (g := g) (v := v.data.toList) (by simpa using hbig))
  have g1 : decide ((12 : Int) < v.size) = true := by simp; omega
  go_wp2
  go_ret
  unfold csL
  rw [HE.out.1, HE.out.2, if_neg (by decide)]
  exact .idle HC2.out.1.2 EL.out HC2.out.2
 have HG := Lib.hid (qmu (L := L) (k := k.data.toList) (g := g) (v := v.data.toList) (by simpa using hbig))
 rw [HF.out] at HG
 have g1 : decide ((12 : Int) < v.size) = false := by simp; omega
 cases g
 ·cases has
  ·by_cases hfull : L.length = 12
   ·have HE := Lib.hid (HG.out.1 rfl rfl hfull)
    go_wp2_with (go_at_call 68; refine (qm8 em EL.out).mono ?_; rintro e w' ⟨rfl, rfl⟩)
    go_ret
    unfold csL
    rw [HE.out.1, HE.out.2, if_neg (by decide)]
    exact .idle HC2.out.1.2 EL.out HC2.out.2
   ·have HE := Lib.hid (HG.out.2.1 rfl (.inr hfull))
    go_wp2_with (go_at_call 68; refine (qm8 em EL.out).mono ?_; rintro e w' ⟨rfl, rfl⟩)
    refine wp_region_still_tail 5 (by kernel_rfl) (by kernel_rfl) ?_
    change wpStill _ _ w2.drew (fun a' => wpList _ _ _ _ a' w2.drew) _ _
    simp only [List.take_succ_cons, List.take_zero, List.drop_succ_cons, List.drop_zero]
    repeat still_step
    refine wpStill_nil ?_
    go_wp2_with (go_at_call 69; refine (qmz (w := w2.drew) em (EL.out.block rfl) (by omega) k v hks).mono ?_; rintro e w3 ⟨rfl, hm3, hb3⟩; have HC3 := Lib.hid (And.intro (HC2.out.1.1.drew.but hb3 hm3) ((HC2.out.1.2.below (w' := w2.drew) (Below.drew (jo _ _))).but (EL.out.block rfl) hb3)); have HB3 := Lib.hid ((But.of_below (B := (· = mb)) HC2.out.2).drew.trans hb3); obtain ⟨f0, f1, f2, fd, fv, fm, fl⟩ := HC3.out.1; clear fl hm3 hb3)
    change Code.wp _ (Code.region 16 cg1 true) _ _ _
    refine qp6 (cb := w.heap.size) (k := k) (v := v) (g := false) rfl rfl rfl rfl HC3.out.2 fv f0 f1 f2 HCL.out HCB.out hcs fun y w4 cv' hy hm4 hc4 hb4 => ?_
    rw [qqy]
    have H4 := Lib.hid (And.intro hm4 (And.intro hc4 hb4))
    clear hm4 hc4 hb4 hy
    go_wp2
    go_ret
    exact qh1 HE.out HC3.out.1.l HC3.out.2 HB3.out H4.out
  ·have HE := Lib.hid (HG.out.2.1 rfl (.inl rfl))
   go_wp2
   refine wp_region_still_tail 5 (by kernel_rfl) (by kernel_rfl) ?_
   change wpStill _ _ w2.drew (fun a' => wpList _ _ _ _ a' w2.drew) _ _
   simp only [List.take_succ_cons, List.take_zero, List.drop_succ_cons, List.drop_zero]
   repeat still_step
   refine wpStill_nil ?_
   go_wp2_with (go_at_call 69; refine (qmz (w := w2.drew) em (EL.out.block rfl) (by omega) k v hks).mono ?_; rintro e w3 ⟨rfl, hm3, hb3⟩; have HC3 := Lib.hid (And.intro (HC2.out.1.1.drew.but hb3 hm3) ((HC2.out.1.2.below (w' := w2.drew) (Below.drew (jo _ _))).but (EL.out.block rfl) hb3)); have HB3 := Lib.hid ((But.of_below (B := (· = mb)) HC2.out.2).drew.trans hb3); obtain ⟨f0, f1, f2, fd, fv, fm, fl⟩ := HC3.out.1; clear fl hm3 hb3)
   change Code.wp _ (Code.region 16 cg1 true) _ _ _
   refine qp6 (cb := w.heap.size) (k := k) (v := v) (g := false) rfl rfl rfl rfl HC3.out.2 fv f0 f1 f2 HCL.out HCB.out hcs fun y w4 cv' hy hm4 hc4 hb4 => ?_
   rw [qqy]
   have H4 := Lib.hid (And.intro hm4 (And.intro hc4 hb4))
   clear hm4 hc4 hb4 hy
   go_wp2
   go_ret
   exact qh1 HE.out HC3.out.1.l HC3.out.2 HB3.out H4.out
 ·cases has
  ·have HE := Lib.hid (HG.out.2.2.1 rfl rfl)
   go_wp2
   go_ret
   unfold csL
   rw [HE.out.1, HE.out.2, if_neg (by decide)]
   exact .idle HC2.out.1.2 EL.out HC2.out.2
  ·have HE := Lib.hid (HG.out.2.2.2 rfl rfl)
   go_wp2
   refine wp_region_still_tail 5 (by kernel_rfl) (by kernel_rfl) ?_
   change wpStill _ _ w2.drew (fun a' => wpList _ _ _ _ a' w2.drew) _ _
   simp only [List.take_succ_cons, List.take_zero, List.drop_succ_cons, List.drop_zero]
   repeat still_step
   refine wpStill_nil ?_
   go_wp2_with (go_at_call 69; refine (qwj (w := w2.drew) em (EL.out.block rfl) k v hks).mono ?_; rintro e w3 ⟨rfl, hm3, hb3⟩; have HC3 := Lib.hid (And.intro (HC2.out.1.1.drew.but hb3 hm3) ((HC2.out.1.2.below (w' := w2.drew) (Below.drew (jo _ _))).but (EL.out.block rfl) hb3)); have HB3 := Lib.hid ((But.of_below (B := (· = mb)) HC2.out.2).drew.trans hb3); obtain ⟨f0, f1, f2, fd, fv, fm, fl⟩ := HC3.out.1; clear fl hm3 hb3)
   change Code.wp _ (Code.region 16 cg1 true) _ _ _
   refine qp6 (cb := w.heap.size) (k := k) (v := v) (g := true) rfl rfl rfl rfl HC3.out.2 fv f0 f1 f2 HCL.out HCB.out hcs fun y w4 cv' hy hm4 hc4 hb4 => ?_
   rw [qqy]
   have H4 := Lib.hid (And.intro hm4 (And.intro hc4 hb4))
   clear hm4 hc4 hb4 hy
   go_wp2
   go_ret
   exact qh1 HE.out HC3.out.1.l HC3.out.2 HB3.out H4.out
end
end Go.Proofs.YtkpekiajdlolnabGreat.Ph
namespace Go.Proofs.YtkpekiajdlolnabGreat
open Go.RowKit Go.Maps
section
variable {w w' : World} {F F' : Nat → Prop} {A : PA} {s : St} {n : Nat}
def qab : Option Mv → Bool
 |none => false
 |some m => m.sealed
theorem qcl.keep {i : Nat} {m : Option Mv} (h : qcl w F A i m) (k1 : ∀ b cur, A.mp i = some b → w.heap[b]? = some (Obj.cells cur 135 (0, 0)) → w'.heap[b]? = w.heap[b]?) (k2 : ∀ b cur, (A.pv i).ownBlock = some b → w.heap[b]? = some (Obj.cells cur 74 (0, 0)) → w'.heap[b]? = w.heap[b]?) (k3 : ∀ b cur, (A.cv i).ownBlock = some b → w.heap[b]? = some (Obj.cells cur 87 (0, 0)) → w'.heap[b]? = w.heap[b]?) : qcl w' F A i m := by
 cases m with
 |none => exact h
 |some m =>
  obtain ⟨g, h1, h2, h3, h4, h5, h6, h7⟩ := h
  refine ⟨g, h1, h2, (k1 g _ h1 h3).trans h3, h4.block fun b hb => ?_, h5.block fun b hb => ?_, h6, h7⟩
  ·obtain ⟨c, hc⟩ := jq h4 hb
   exact k2 b _ hb hc
  ·obtain ⟨c, hc⟩ := jq h5 hb
   exact k3 b _ hb hc
theorem PAt.put {X : KV} (h : PAt w F A s) (hn : n < 4) (hb : But (· = A.mb n) w w') (hm : j4 w' (A.mb n) X) : PAt w' F A { s with kv := qaf s.kv n X } := by
 have no : ∀ (b : Nat) (cur : Array Value) (ty : TypeId), w.heap[b]? = some (Obj.cells cur ty (0, 0)) → w'.heap[b]? = w.heap[b]? := fun b cur ty hbb => hb.keep b (zx hbb).1 (qbm (h.mb n hn).2 hbb)
 refine ⟨⟨h.cl.1, (no _ _ _ h.cl.2).trans h.cl.2⟩, fun i hi => ⟨(h.db i hi).1, (no _ _ _ (h.db i hi).2).trans (h.db i hi).2⟩, fun i hi => ⟨(h.mb i hi).1, ?_⟩, h.mbi, fun i hi => (h.mv i hi).keep (fun b cur _ hbb => no b cur _ hbb) (fun b cur _ hbb => no b cur _ hbb) (fun b cur _ hbb => no b cur _ hbb), h.mpi, h.cvi, ⟨h.stg.1, h.stg.2.1, (hb.keep _ (zx h.stg.2.2).1 fun e => h.smb n hn e.symm).trans h.stg.2.2⟩, h.smb⟩
 show j4 w' (A.mb i) (qaf s.kv n X i)
 unfold qaf
 split
 ·rename_i e; subst e; exact hm
 ·rename_i e
  exact (h.mb i hi).2.block (hb.keep _ (h.mb i hi).2.lt fun e2 => e (h.mbi i n hi hn e2))
theorem PAt.chg {X : KV} {x : Nat} {m : Mv} {cs' : List Chg} {cv' : Value} (h : PAt w F A s) (hn : n < 4) (hmp : A.mp n = some x) (hmv : s.mv n = some m) (hx : MX x n (A.pv n) (A.cv n) (A.ld n) m w) (hb : But (ChB (A.mb n) x (A.cv n)) w w') (hm : j4 w' (A.mb n) X)
  (h4 : MX x n (A.pv n) cv' (A.ld n) { m with cs := cs' } w') (hc : ∀ b, cv'.ownBlock = some b → (A.cv n).ownBlock = some b ∨ w.heap.size ≤ b) :
  PAt w' (fun b => F b ∨ w.heap.size ≤ b) { A with cv := qo A.cv n cv' } { s with kv := qaf s.kv n X, mv := qo s.mv n (some { m with cs := cs' }) } := by
 have lt : ∀ {b : Nat} {o : Obj}, w.heap[b]? = some o → b < w.heap.size := fun hb => (zx hb).1
 have tyr : ∀ b, (A.cv n).ownBlock = some b → ∃ cur, w.heap[b]? = some (Obj.cells cur 87 (0, 0)) := fun b hb => jq hx.r hb
 have noT : ∀ (b : Nat) (cur : Array Value) (ty : TypeId), w.heap[b]? = some (Obj.cells cur ty (0, 0)) → ty ≠ 135 → ty ≠ 87 → w'.heap[b]? = w.heap[b]? := fun b cur ty hbb n1 n2 => hb.keep b (lt hbb) (by
  rintro (e | e | e)
  ·exact qbm (h.mb n hn).2 hbb e
  ·rw [e, hx.b] at hbb
   have e2 := xoi hbb
   injection e2 with _ e3
   exact n1 e3.symm
  ·obtain ⟨c, hc⟩ := tyr b e
   rw [hc] at hbb
   have e2 := xoi hbb
   injection e2 with _ e3
   exact n2 e3.symm)
 have noM : ∀ b, (∃ es ck, w.heap[b]? = some (Obj.map es ck)) → b ≠ A.mb n → w'.heap[b]? = w.heap[b]? := fun b ⟨es, ck, hbb⟩ hne => hb.keep b (lt hbb) (by
  rintro (e | e | e)
  ·exact hne e
  ·rw [e, hx.b] at hbb; cases hbb
  ·obtain ⟨c, hc⟩ := tyr b e
   rw [hc] at hbb; cases hbb)
 refine ⟨⟨.inl h.cl.1, ?_⟩, fun i hi => ⟨.inl (h.db i hi).1, (noT _ _ _ (h.db i hi).2 (by decide) (by decide)).trans (h.db i hi).2⟩, fun i hi => ⟨.inl (h.mb i hi).1, ?_⟩, h.mbi, fun i hi => ?_, h.mpi, fun i j g hi hj h1 h2 => ?_, ⟨h.stg.1, .inl h.stg.2.1, (noM _ ⟨_, _, h.stg.2.2⟩ fun e => h.smb n hn e.symm).trans h.stg.2.2⟩, h.smb⟩
 ·exact (noT _ _ _ h.cl.2 (by decide) (by decide)).trans h.cl.2
 ·show j4 w' (A.mb i) (qaf s.kv n X i)
  unfold qaf
  split
  ·rename_i e; subst e; exact hm
  ·rename_i e
   obtain ⟨es, ck, hbb, _⟩ := (h.mb i hi).2
   exact (h.mb i hi).2.block (noM _ ⟨es, ck, hbb⟩ fun e2 => e (h.mbi i n hi hn e2))
 ·show qcl w' _ _ i (qo s.mv n _ i)
  by_cases e : i = n
  ·subst e
   rw [show qo s.mv i (some { m with cs := cs' }) i = some { m with cs := cs' } by unfold qo; rw [if_pos rfl]]
   have h0 := h.mv i hi
   rw [hmv] at h0
   obtain ⟨g, z1, z2, z3, z4, z5, z6, z7⟩ := h0
   rw [hmp] at z1
   cases z1
   refine ⟨x, hmp, .inl z2, ?_, ?_, ?_, fun b hb => .inl (z6 b hb), fun b hb => ?_⟩
   ·rw [h4.b]
    show _ = some (Obj.cells (j3 i (A.pv i) (qo A.cv i cv' i) (A.ld i) _) _ _)
    rw [show qo A.cv i cv' i = cv' by unfold qo; rw [if_pos rfl]]
   ·exact z4.block fun b hb => by
     obtain ⟨c, hc⟩ := jq z4 hb
     exact noT b c _ hc (by decide) (by decide)
   ·show qjd w' (qo A.cv i cv' i) cs'
    rw [show qo A.cv i cv' i = cv' by unfold qo; rw [if_pos rfl]]
    exact h4.r
   ·have hb : cv'.ownBlock = some b := by
     have : qo A.cv i cv' i = cv' := by unfold qo; rw [if_pos rfl]
     rw [← this]; exact hb
    exact (hc b hb).imp (z7 b) id
  ·rw [show qo s.mv n (some { m with cs := cs' }) i = s.mv i by unfold qo; rw [if_neg e]]
   have hA : qo A.cv n cv' i = A.cv i := by unfold qo; rw [if_neg e]
   have h1 : qcl w' (fun b => F b ∨ w.heap.size ≤ b) A i (s.mv i) := ((h.mv i hi).keep (fun b cur o hbb => hb.keep b (lt hbb) (by
     rintro (e2 | e2 | e2)
     ·exact qbm (h.mb n hn).2 hbb e2
     ·exact e (h.mpi i n b hi hn o (by rw [hmp, e2]))
     ·obtain ⟨c, hc⟩ := tyr b e2
      rw [hc] at hbb
      have e3 := xoi hbb
      injection e3 with _ e4
      exact absurd e4 (by decide))) (fun b cur o hbb => noT b cur _ hbb (by decide) (by decide)) (fun b cur o hbb => hb.keep b (lt hbb) (by
     rintro (e2 | e2 | e2)
     ·exact qbm (h.mb n hn).2 hbb e2
     ·rw [e2, hx.b] at hbb
      have e3 := xoi hbb
      injection e3 with _ e4
      exact absurd e4 (by decide)
     ·exact e (h.cvi i n b hi hn o e2)))).mono fun b hb => .inl hb
   ·cases hmi : s.mv i with
    |none => rw [hmi] at h1; exact ⟨h1.1, by show (qo A.cv n cv' i).ownBlock = none; rw [hA]; exact h1.2⟩
    |some mi =>
     rw [hmi] at h1
     obtain ⟨g, z1, z2, z3, z4, z5, z6, z7⟩ := h1
     exact ⟨g, z1, z2, by rw [z3]; show _ = some (Obj.cells (j3 i (A.pv i) (qo A.cv n cv' i) (A.ld i) _) _ _); rw [hA], z4, by show qjd w' (qo A.cv n cv' i) _; rw [hA]; exact z5, z6, fun b hb => z7 b (by have hb : (qo A.cv n cv' i).ownBlock = some b := hb; rw [hA] at hb; exact hb)⟩
 ·have h1 : (qo A.cv n cv' i).ownBlock = some g := h1
  have h2 : (qo A.cv n cv' j).ownBlock = some g := h2
  have ltc : ∀ i, i < 4 → ∀ b, (A.cv i).ownBlock = some b → b < w.heap.size := fun i hi b hb => by
   have h0 := h.mv i hi
   cases hmi : s.mv i with
   |none => rw [hmi] at h0; rw [h0.2] at hb; cases hb
   |some mi =>
    rw [hmi] at h0
    obtain ⟨q, z1, z2, z3, z4, z5, z6, z7⟩ := h0
    exact (World.ownsRow.lt z5 b hb).2
  unfold qo at h1 h2
  by_cases e1 : i = n
  ·by_cases e2 : j = n
   ·omega
   ·rw [if_pos e1] at h1
    rw [if_neg e2] at h2
    rcases hc g h1 with h3 | h3
    ·exact absurd (h.cvi n j g hn hj h3 h2) fun e => e2 e.symm
    ·have := ltc j hj g h2; omega
  ·rw [if_neg e1] at h1
   by_cases e2 : j = n
   ·rw [if_pos e2] at h2
    rcases hc g h2 with h3 | h3
    ·exact absurd (h.cvi i n g hi hn h1 h3) e1
    ·have := ltc i hi g h1; omega
   ·rw [if_neg e2] at h2
    exact h.cvi i j g hi hj h1 h2
end
end Go.Proofs.YtkpekiajdlolnabGreat
namespace Go.Proofs.YtkpekiajdlolnabGreat.Ph
open Go.Conc Go.ConcN Go.RowKit Go.Maps Go.Conc.Lib Go Sim
def qf5 (w : World) (F : Nat → Prop) (A : PA) (v : Value) (s' : St) (e : Ending) (w' : World) : Prop := e = .returned v ∧ ∃ A' : PA, A'.cl = A.cl ∧ PAt w' (fun b => F b ∨ w.heap.size ≤ b) A' s' ∧ But F w w'
def chE (s : St) (k v : ByteArray) (g : Bool) : Int := if qaz k.data.toList then (if qab (s.mv (ji k.data.toList)) then (if 12 < v.data.toList.length then 3 else 5) else xu (s.kv (ji k.data.toList)) k.data.toList v.data.toList g) else 2
def chS (s : St) (k v : ByteArray) (g : Bool) : St := if qaz k.data.toList && !qab (s.mv (ji k.data.toList)) then { s with kv := qaf s.kv (ji k.data.toList) (chL (s.kv (ji k.data.toList)) k.data.toList v.data.toList g), mv := qo s.mv (ji k.data.toList) ((s.mv (ji k.data.toList)).map fun m => { m with cs := csL (s.kv (ji k.data.toList)) m.cs k v g }) } else s
section
variable {w w' : World} {F : Nat → Prop} {A : PA} {s : St}
theorem qf5.idle {v : Value} (h : PAt w F A s) (hb : Below w.heap.size w w') : qf5 w F A v s (.returned v) w' := ⟨rfl, A, rfl, (h.below hb).mono fun _ h => .inl h, But.of_below hb⟩
theorem qmc (h : PAt w F A s) (hl : ∀ i, i < 4 → (s.kv i).length ≤ 12) (hcs : ∀ i, i < 4 → ∀ m, s.mv i = some m → m.cs.length ≤ 1073741820) (k v : ByteArray) (g : Bool) (hs : k.size ≤ maxLen) :
  Calls Tryz.prog 40 #[.pointer (some ⟨A.cl, 0, none⟩), .agg #[.string k, .string v, .bool g]] w (qf5 w F A (.int .i64 (chE s k v g)) (chS s k v g)) := by
 cases hk : qaz k.data.toList
 ·refine (qp8 k v g hk hs).mono fun e w' ⟨h1, h2⟩ => ?_
  unfold chE chS
  rw [hk, h1]
  exact .idle h h2
 ·have hn := qc0 k.data.toList
  obtain ⟨n, hnn⟩ : ∃ n, ji k.data.toList = n := ⟨_, rfl⟩
  unfold chE chS
  rw [hnn] at hn
  rw [hk, hnn]
  have hp := h.part n hn
  have hm := h.mv n hn
  cases hmv : s.mv n with
  |none =>
   rw [hmv] at hm
   rw [hm.1] at hp
   refine (qp9 k v g n hn hk hnn hs (hl n hn) hp).mono fun e w' ⟨h1, h2, h3⟩ => ?_
   have h4 := (h.put hn h3 h2).mono (F' := fun b => F b ∨ w.heap.size ≤ b) fun _ h => .inl h
   refine ⟨h1, A, rfl, ?_, h3.mono fun b e => e ▸ (h.mb n hn).1⟩
   have e : qo s.mv n (Option.map (fun m : Mv => { m with cs := csL (s.kv n) m.cs k v g }) none) = s.mv := by
    funext i; unfold qo; split
    ·rename_i e; rw [e, hmv]; rfl
    ·rfl
   show PAt w' _ A { s with kv := _, mv := qo s.mv n (Option.map (fun m : Mv => { m with cs := csL (s.kv n) m.cs k v g }) none) }
   rw [e]
   exact h4
  |some m =>
   rw [hmv] at hm
   obtain ⟨x, z1, z2, z3, z4, z5, z6, z7⟩ := hm
   rw [z1] at hp
   have hx : MX x n (A.pv n) (A.cv n) (A.ld n) m w := ⟨z3, z5⟩
   cases hse : m.sealed
   ·have hcl : (A.cv n).ownBlock ≠ some A.cl := fun e => by
     obtain ⟨c, hc⟩ := jq z5 e
     rw [h.cl.2] at hc
     have e2 := xoi hc
     injection e2 with _ e3
     exact absurd e3 (by decide)
    refine (qn7 k v g n hn hk hnn hs (hl n hn) hp hx hse (hcs n hn m hmv) hcl).mono fun e w' ⟨h1, h2, ⟨cv', h3, h4⟩, h5⟩ => ?_
    rw [show qab (some m) = false from hse]
    refine ⟨h1, { A with cv := qo A.cv n cv' }, rfl, h.chg hn z1 hmv hx h5 h2 h3 h4, h5.mono fun b e => ?_⟩
    rcases e with e | e | e
    ·exact e ▸ (h.mb n hn).1
    ·exact e ▸ z2
    ·exact z7 b e
   ·refine (qk9 k v g n hn hk hnn hs (hl n hn) hp hx hse).mono fun e w' ⟨h1, h2⟩ => ?_
    rw [show qab (some m) = true from hse, h1]
    exact .idle h h2
theorem q58 (h : PAt w F A s) (hl : ∀ i, i < 4 → (s.kv i).length ≤ 12) (hcs : ∀ i, i < 4 → ∀ m, s.mv i = some m → m.cs.length ≤ 1073741820) (k v : ByteArray) (hs : k.size ≤ maxLen) :
  Calls Tryz.prog 18 #[.pointer (some ⟨A.cl, 0, none⟩), .string k, .string v] w (qf5 w F A (.int .i64 (chE s k v false)) (chS s k v false)) := by
 have hc := qmc h hl hcs k v false hs
 generalize chS s k v false = s' at *
 generalize chE s k v false = c at *
 clear h hl hcs
 go_enter Tryz.func18, Tryz.ntmps18
 go_wp2_with (go_at_call 40; refine hc.mono ?_; rintro e w' ⟨rfl, h2⟩; have H2 := Lib.hid h2; clear h2)
 go_ret
 exact ⟨rfl, H2.out⟩
theorem qud (h : PAt w F A s) (hl : ∀ i, i < 4 → (s.kv i).length ≤ 12) (hcs : ∀ i, i < 4 → ∀ m, s.mv i = some m → m.cs.length ≤ 1073741820) (k : ByteArray) (hs : k.size ≤ maxLen) :
  Calls Tryz.prog 25 #[.pointer (some ⟨A.cl, 0, none⟩), .string k] w (qf5 w F A (.int .i64 (chE s k ⟨#[]⟩ true)) (chS s k ⟨#[]⟩ true)) := by
 have hc := qmc h hl hcs k ⟨#[]⟩ true hs
 generalize chS s k ⟨#[]⟩ true = s' at *
 generalize chE s k ⟨#[]⟩ true = c at *
 clear h hl hcs
 go_enter Tryz.func25, Tryz.ntmps25
 go_wp2_with (go_at_call 40; refine hc.mono ?_; rintro e w' ⟨rfl, h2⟩; have H2 := Lib.hid h2; clear h2)
 go_ret
 exact ⟨rfl, H2.out⟩
end
def qdt (w : World) (G : Nat → Prop) (B : MA) (v : Value) (t' : St) (e : Ending) (w' : World) : Prop := e = .returned v ∧ ∃ B' : MA, B'.ml = B.ml ∧ MAt w' (fun b => G b ∨ w.heap.size ≤ b) B' t' ∧ But G w w'
section
variable {w w' : World} {G : Nat → Prop} {B : MA} {s : St} {n x : Nat} {m : Mv}
theorem qdt.idle {v : Value} (h : MAt w G B s) (hb : Below w.heap.size w w') : qdt w G B v s (.returned v) w' := ⟨rfl, B, rfl, (h.below hb).mono fun _ h => .inl h, But.of_below hb⟩
theorem qjq {W : World} {k : ByteArray} {y : ByteArray} {g : Bool} {w1 : World} {A C : Prop} (h : A ∧ C ∧ Hid (MAt w1 G B s ∧ CA W.heap.size k y g w1 ∧ Below W.heap.size W w1 ∧ W.heap.size < w1.heap.size)) (hn : n < 4) (hL : (s.kv n).length ≤ 12) :
  Calls Tryz.prog 51 #[B.lv n, .string k] w1 fun e w' => (e = .returned (.tuple #[.int .i64 (qee (s.kv n) k.data.toList), .bool (qbc (s.kv n) k.data.toList)])) ∧ MAt w' G B s ∧ CA W.heap.size k y g w' ∧ Below W.heap.size W w' ∧ W.heap.size < w'.heap.size :=
 (qp2 (h.2.2.out.1.r n hn).1.1 (by omega) k).mono fun e w' ⟨h1, h2⟩ => ⟨h1, h.2.2.out.1.below h2, ⟨(h2.cell h.2.2.out.2.2.2).trans h.2.2.out.2.1.c0, (h2.cell h.2.2.out.2.2.2).trans h.2.2.out.2.1.c1, (h2.cell h.2.2.out.2.2.2).trans h.2.2.out.2.1.c2⟩, h.2.2.out.2.2.1.trans (h2.mono h.2.2.out.2.2.1.size), xll h.2.2.out.2.2.2 h2.size⟩
structure qjf (W : World) (G : Nat → Prop) (B : MA) (s : St) (k v : ByteArray) (g : Bool) (X : KV) (u : Value) (w : World) : Prop where
 m : MAt w G B s
 r : yh w W.heap.size u X
 b : Below W.heap.size W w
 c : CA W.heap.size k v g w
theorem qdx {W : World} {k v : ByteArray} {g : Bool} {w1 : World} {sa : Option Addr} {cp : Nat} (h : MAt w1 G B s ∧ CA W.heap.size k v g w1 ∧ Below W.heap.size W w1 ∧ W.heap.size < w1.heap.size) (hn : n < 4) (hv : B.lv n = .slice sa (s.kv n).length cp) (hL : (s.kv n).length ≤ 12) (hri : zi (s.kv n)) (hg : g = true → (jd (s.kv n) k.data.toList).isSome = true) (d : Nat) :
  Calls Tryz.prog 52 #[.slice sa (s.kv n).length cp, .agg #[.string k, .string v, .bool g]] (w1.drewN d) fun e w' => ∃ sa' nn cp', e = .returned (.slice sa' nn cp') ∧ qjf W G B s k v g (if g then qap (s.kv n) k.data.toList else qbe (s.kv n) k.data.toList v.data.toList) (.slice sa' nn cp') w' := by
 have hm : MAt (w1.drewN d) G B s := h.1.below (Below.drewN' (jo _ _) d)
 have hr := (hm.r n hn).1
 rw [hv] at hr
 refine (qwl hr (by omega) hri k v g fun e => by rw [(qef hri k.data.toList).2.1]; exact hg e).mono ?_
 rintro e w' ⟨v', rfl, h1, h2⟩
 obtain ⟨sa', cp', rfl⟩ := qb0 h1
 have hz : W.heap.size ≤ (w1.drewN d).heap.size := h.2.2.1.size
 exact ⟨sa', _, cp', rfl, hm.below h2, qdj h1.1 h1.2 hz rfl, (Below.drewN' h.2.2.1 d).trans (h2.mono hz), ⟨(h2.cell h.2.2.2).trans h.2.1.c0, (h2.cell h.2.2.2).trans h.2.1.c1, (h2.cell h.2.2.2).trans h.2.1.c2⟩⟩
theorem qjf.stored {W : World} {k v : ByteArray} {g : Bool} {X : KV} {u : Value} (h : qjf W G B s k v g X u w) (hn : n < 4) : MAt (w.setCell ⟨B.sb, n * 3 + 1, none⟩ u) (fun b => G b ∨ W.heap.size ≤ b) { B with lv := qo B.lv n u } { s with kv := qaf s.kv n X } :=
 (h.m.mono fun _ h => .inl h).store hn h.r.to0 fun b hb => .inr (h.r.1.lt b hb).1
theorem qjf.but {W : World} {k v : ByteArray} {g : Bool} {X : KV} {u : Value} (h : qjf W G B s k v g X u w) : But G W (w.setCell ⟨B.sb, n * 3 + 1, none⟩ u) := But.setCell (But.of_below h.b) h.m.sb.1 _ _
theorem qjf.ca {W : World} {k v : ByteArray} {g : Bool} {X : KV} {u : Value} (h : qjf W G B s k v g X u w) (hlt : B.sb < W.heap.size) : CA W.heap.size k v g (w.setCell ⟨B.sb, n * 3 + 1, none⟩ u) := by
 have e : (w.setCell ⟨B.sb, n * 3 + 1, none⟩ u).heap[W.heap.size]? = w.heap[W.heap.size]? := xho w _ _ _ (by show W.heap.size ≠ B.sb; omega)
 exact ⟨(xcb e).trans h.c.c0, (xcb e).trans h.c.c1, (xcb e).trans h.c.c2⟩
theorem qmy (k v : ByteArray) (g : Bool) (hn : n < 4) (hk : qaz k.data.toList = true) (hkn : ji k.data.toList = n) (hL : (s.kv n).length ≤ 12) (hri : zi (s.kv n)) (hm : MAt w G B s) (hmv : s.mv n = none) :
  Calls Tryz.prog 24 #[.pointer (some ⟨B.ml, 0, none⟩), .agg #[.string k, .string v, .bool g]] w (qdt w G B (.int .i64 (xu (s.kv n) k.data.toList v.data.toList g)) { s with kv := qaf s.kv n (chL (s.kv n) k.data.toList v.data.toList g) }) := by
 have hn3 : ((n : Int) < 4) := by omega
 have HM := Lib.hid hm
 have HR := Lib.hid hri
 have HSB := Lib.hid hm.q2k
 have HMP : Hid (mpA (B.mp n) = none) := Lib.hid (by
  have h0 := hm.mv n hn
  rw [hmv] at h0
  rw [h0.1]; rfl)
 have HMV := Lib.hid hmv
 clear hm hri hmv
 go_enter Tryz.func24, Tryz.ntmps24
 go_wp2_with (go_at_call 50; refine (qhe _ hk).mono ?_; rintro e w1 ⟨rfl, hb⟩; rw [hkn]; have H1 := Lib.hid (CA.of hb); have M1 := Lib.hid (HM.out.below H1.out.2.1); have ms : w1.cell? ⟨B.ml, 1, none⟩ = some (.slice (some ⟨B.sb, 0, none⟩) 4 B.cap) := (M1.out.cells 1 _ rfl).1; obtain ⟨m0, m1, m2, m3⟩ := M1.out.sbc hn; obtain ⟨c0, c1, c2⟩ := H1.out.1; clear hb m0)
 go_region_held3 (fun w' => w'.cell? ⟨B.sb, n * 3 + 1, none⟩ = some (B.lv n) ∧ w'.cell? ⟨w.heap.size, 0, none⟩ = some (.string k) ∧ Hid (MAt w' G B s ∧ CA w.heap.size k v g w' ∧ Below w.heap.size w w' ∧ w.heap.size < w'.heap.size))
  (first | exact ⟨m1, c0, Lib.hid ⟨M1.out.below (Below.drew (jo _ _)), ⟨c0, c1, c2⟩, H1.out.2.1.drew, H1.out.2.2⟩⟩ | exact ⟨(H2.out.1.sbc hn).2.1, H2.out.2.1.c0, H2⟩)
  (first | (go_at_call 51; refine (qjq (by assumption) hn hL).mono ?_; rintro e w2 ⟨rfl, h2⟩; have H2 := Lib.hid h2; clear h2))
 have HA := Lib.hid (qef HR.out k.data.toList)
 rw [HA.out.2.1]
 obtain ⟨has, hhas⟩ : ∃ b, (jd (s.kv n) k.data.toList).isSome = b := ⟨_, rfl⟩
 rw [hhas]
 have HF := Lib.hid hhas
 clear hhas
 obtain ⟨sa, cp, hv⟩ := qb0 (H2.out.1.r n hn).1
 have HV := Lib.hid hv
 obtain ⟨e0, e1, e2⟩ := H2.out.2.1
 obtain ⟨p0, p1, p2, p3⟩ := H2.out.1.sbc hn
 rw [hv] at p1
 rw [HMP.out] at p2
 clear hv p0
 by_cases hbig : 12 < v.size
 ·have HE := Lib.hid (qmt (L := s.kv n) (k := k.data.toList) (g := g) (v := v.data.toList) (by simpa using hbig))
  have g1 : decide ((12 : Int) < v.size) = true := by simp; omega
  go_wp2
  go_ret
  rw [HE.out.1, HE.out.2, show qaf s.kv n (s.kv n) = s.kv from qau s.kv n]
  exact .idle HM.out H2.out.2.2.1
 have HG := Lib.hid (qmu (L := s.kv n) (k := k.data.toList) (g := g) (v := v.data.toList) (by simpa using hbig))
 rw [HF.out] at HG
 have g1 : decide ((12 : Int) < v.size) = false := by simp; omega
 cases g
 ·cases has
  ·by_cases hfull : (s.kv n).length = 12
   ·have HE := Lib.hid (HG.out.1 rfl rfl hfull)
    have g2 : decide ((12 : Int) ≤ ((s.kv n).length : Int)) = true := by simp; omega
    go_wp2
    go_ret
    rw [HE.out.1, HE.out.2, show qaf s.kv n (s.kv n) = s.kv from qau s.kv n]
    exact .idle HM.out H2.out.2.2.1
   ·have HE := Lib.hid (HG.out.2.1 rfl (.inr hfull))
    have g2 : decide ((12 : Int) ≤ ((s.kv n).length : Int)) = false := by simp; omega
    go_wp2
    go_region_with (first | (go_at_call 52; refine (qdx (d := 1) H2.out hn HV.out hL HR.out (fun h => by cases h)).mono ?_; rintro e w3 ⟨sa3, n3, cp3, rfl, h3⟩; have H3 := Lib.hid h3; obtain ⟨q0, q1, q2, q3⟩ := H3.out.m.sbc hn; rw [HMP.out] at q2; clear q0 h3))
    all_goals go_wp2
    all_goals go_ret
    all_goals exact ⟨by rw [HE.out.1]; rfl, ⟨B.ml, B.sb, qo B.lv n (.slice sa3 n3 cp3), B.mp, B.pv, B.cv, B.sg, B.cap⟩, rfl, by rw [HE.out.2]; exact H3.out.stored hn, H3.out.but⟩
  ·have HE := Lib.hid (HG.out.2.1 rfl (.inl rfl))
   go_wp2
   go_region_with (first | (go_at_call 52; refine (qdx (d := 1) H2.out hn HV.out hL HR.out (fun h => by cases h)).mono ?_; rintro e w3 ⟨sa3, n3, cp3, rfl, h3⟩; have H3 := Lib.hid h3; obtain ⟨q0, q1, q2, q3⟩ := H3.out.m.sbc hn; rw [HMP.out] at q2; clear q0 h3))
   all_goals go_wp2
   all_goals go_ret
   all_goals exact ⟨by rw [HE.out.1]; rfl, ⟨B.ml, B.sb, qo B.lv n (.slice sa3 n3 cp3), B.mp, B.pv, B.cv, B.sg, B.cap⟩, rfl, by rw [HE.out.2]; exact H3.out.stored hn, H3.out.but⟩
 ·cases has
  ·have HE := Lib.hid (HG.out.2.2.1 rfl rfl)
   go_wp2
   go_ret
   rw [HE.out.1, HE.out.2, show qaf s.kv n (s.kv n) = s.kv from qau s.kv n]
   exact .idle HM.out H2.out.2.2.1
  ·have HE := Lib.hid (HG.out.2.2.2 rfl rfl)
   go_wp2
   go_region_with (first | (go_at_call 52; refine (qdx (d := 1) H2.out hn HV.out hL HR.out (fun _ => HF.out)).mono ?_; rintro e w3 ⟨sa3, n3, cp3, rfl, h3⟩; have H3 := Lib.hid h3; obtain ⟨q0, q1, q2, q3⟩ := H3.out.m.sbc hn; rw [HMP.out] at q2; clear q0 h3))
   all_goals go_wp2
   all_goals go_ret
   all_goals exact ⟨by rw [HE.out.1]; rfl, ⟨B.ml, B.sb, qo B.lv n (.slice sa3 n3 cp3), B.mp, B.pv, B.cv, B.sg, B.cap⟩, rfl, by rw [HE.out.2]; exact H3.out.stored hn, H3.out.but⟩
theorem qjw (k v : ByteArray) (g : Bool) (hn : n < 4) (hk : qaz k.data.toList = true) (hkn : ji k.data.toList = n) (hL : (s.kv n).length ≤ 12) (hri : zi (s.kv n)) (hm : MAt w G B s) (hmv : s.mv n = some m) (hse : m.sealed = true) :
  Calls Tryz.prog 24 #[.pointer (some ⟨B.ml, 0, none⟩), .agg #[.string k, .string v, .bool g]] w (qdt w G B (.int .i64 (if 12 < v.data.toList.length then 3 else 5)) s) := by
 have hn3 : ((n : Int) < 4) := by omega
 have HM := Lib.hid hm
 have HR := Lib.hid hri
 have HSB := Lib.hid hm.q2k
 obtain ⟨x, hx, hrx⟩ := hm.rx hn hmv
 have HMP : Hid (mpA (B.mp n) = some ⟨x, 0, none⟩) := Lib.hid (by rw [hx]; rfl)
 have HMV := Lib.hid hmv
 have HX := Lib.hid hrx
 have HXP := Lib.hid hx
 have HSE := Lib.hid hse
 clear hm hri hmv hse hrx hx
 obtain ⟨cd, hcd⟩ : ∃ cd : Int, (if 12 < v.data.toList.length then (3 : Int) else 5) = cd := ⟨_, rfl⟩
 rw [hcd]
 have HCD := Lib.hid hcd
 clear hcd
 go_enter Tryz.func24, Tryz.ntmps24
 go_wp2_with (go_at_call 50; refine (qhe _ hk).mono ?_; rintro e w1 ⟨rfl, hb⟩; rw [hkn]; have H1 := Lib.hid (CA.of hb); have M1 := Lib.hid (HM.out.below H1.out.2.1); have ms : w1.cell? ⟨B.ml, 1, none⟩ = some (.slice (some ⟨B.sb, 0, none⟩) 4 B.cap) := (M1.out.cells 1 _ rfl).1; obtain ⟨m0, m1, m2, m3⟩ := M1.out.sbc hn; obtain ⟨c0, c1, c2⟩ := H1.out.1; clear hb m0)
 go_region_held3 (fun w' => w'.cell? ⟨B.sb, n * 3 + 1, none⟩ = some (B.lv n) ∧ w'.cell? ⟨w.heap.size, 0, none⟩ = some (.string k) ∧ Hid (MAt w' G B s ∧ CA w.heap.size k v g w' ∧ Below w.heap.size w w' ∧ w.heap.size < w'.heap.size))
  (first | exact ⟨m1, c0, Lib.hid ⟨M1.out.below (Below.drew (jo _ _)), ⟨c0, c1, c2⟩, H1.out.2.1.drew, H1.out.2.2⟩⟩ | exact ⟨(H2.out.1.sbc hn).2.1, H2.out.2.1.c0, H2⟩)
  (first | (go_at_call 51; refine (qjq (by assumption) hn hL).mono ?_; rintro e w2 ⟨rfl, h2⟩; have H2 := Lib.hid h2; clear h2))
 have HA := Lib.hid (qef HR.out k.data.toList)
 rw [HA.out.2.1]
 obtain ⟨has, hhas⟩ : ∃ b, (jd (s.kv n) k.data.toList).isSome = b := ⟨_, rfl⟩
 rw [hhas]
 have HF := Lib.hid hhas
 clear hhas
 obtain ⟨sa, cp, hv⟩ := qb0 (H2.out.1.r n hn).1
 have HV := Lib.hid hv
 obtain ⟨e0, e1, e2⟩ := H2.out.2.1
 obtain ⟨p0, p1, p2, p3⟩ := H2.out.1.sbc hn
 rw [hv] at p1
 rw [HMP.out] at p2
 clear hv p0
 have q2 := (HX.out.below (H2.out.2.2.1)).cells.2.1
 rw [HSE.out] at q2
 by_cases hbig : 12 < v.size
 ·have HE : Hid (cd = 3) := Lib.hid (HCD.out.symm.trans (if_pos (by simpa using hbig)))
  have g1 : decide ((12 : Int) < v.size) = true := by simp; omega
  go_wp2
  go_ret
  rw [HE.out]
  exact .idle HM.out H2.out.2.2.1
 ·have HE : Hid (cd = 5) := Lib.hid (HCD.out.symm.trans (if_neg (by simpa using hbig)))
  have g1 : decide ((12 : Int) < v.size) = false := by simp; omega
  go_wp2
  go_ret
  rw [HE.out]
  exact .idle HM.out H2.out.2.2.1
theorem qmx (k v : ByteArray) (g : Bool) (hn : n < 4) (hk : qaz k.data.toList = true) (hkn : ji k.data.toList = n) (hL : (s.kv n).length ≤ 12) (hri : zi (s.kv n)) (hm : MAt w G B s) (hmv : s.mv n = some m) (hse : m.sealed = false) (hcs : m.cs.length ≤ 1073741820) :
  Calls Tryz.prog 24 #[.pointer (some ⟨B.ml, 0, none⟩), .agg #[.string k, .string v, .bool g]] w (qdt w G B (.int .i64 (xu (s.kv n) k.data.toList v.data.toList g)) { s with kv := qaf s.kv n (chL (s.kv n) k.data.toList v.data.toList g), mv := qo s.mv n (some { m with cs := csL (s.kv n) m.cs k v g }) }) := by
 have hn3 : ((n : Int) < 4) := by omega
 have HM := Lib.hid hm
 have HR := Lib.hid hri
 have HSB := Lib.hid hm.q2k
 obtain ⟨x, hx, hrx⟩ := hm.rx hn hmv
 have HMP : Hid (mpA (B.mp n) = some ⟨x, 0, none⟩) := Lib.hid (by rw [hx]; rfl)
 have HMV := Lib.hid hmv
 have HX := Lib.hid hrx
 have HXP := Lib.hid hx
 have HSE := Lib.hid hse
 clear hm hri hmv hse hrx hx
 have HCS := Lib.hid hcs
 clear hcs
 go_enter Tryz.func24, Tryz.ntmps24
 go_wp2_with (go_at_call 50; refine (qhe _ hk).mono ?_; rintro e w1 ⟨rfl, hb⟩; rw [hkn]; have H1 := Lib.hid (CA.of hb); have M1 := Lib.hid (HM.out.below H1.out.2.1); have ms : w1.cell? ⟨B.ml, 1, none⟩ = some (.slice (some ⟨B.sb, 0, none⟩) 4 B.cap) := (M1.out.cells 1 _ rfl).1; obtain ⟨m0, m1, m2, m3⟩ := M1.out.sbc hn; obtain ⟨c0, c1, c2⟩ := H1.out.1; clear hb m0)
 go_region_held3 (fun w' => w'.cell? ⟨B.sb, n * 3 + 1, none⟩ = some (B.lv n) ∧ w'.cell? ⟨w.heap.size, 0, none⟩ = some (.string k) ∧ Hid (MAt w' G B s ∧ CA w.heap.size k v g w' ∧ Below w.heap.size w w' ∧ w.heap.size < w'.heap.size))
  (first | exact ⟨m1, c0, Lib.hid ⟨M1.out.below (Below.drew (jo _ _)), ⟨c0, c1, c2⟩, H1.out.2.1.drew, H1.out.2.2⟩⟩ | exact ⟨(H2.out.1.sbc hn).2.1, H2.out.2.1.c0, H2⟩)
  (first | (go_at_call 51; refine (qjq (by assumption) hn hL).mono ?_; rintro e w2 ⟨rfl, h2⟩; have H2 := Lib.hid h2; clear h2))
 have HA := Lib.hid (qef HR.out k.data.toList)
 rw [HA.out.2.1]
 obtain ⟨has, hhas⟩ : ∃ b, (jd (s.kv n) k.data.toList).isSome = b := ⟨_, rfl⟩
 rw [hhas]
 have HF := Lib.hid hhas
 clear hhas
 obtain ⟨sa, cp, hv⟩ := qb0 (H2.out.1.r n hn).1
 have HV := Lib.hid hv
 obtain ⟨e0, e1, e2⟩ := H2.out.2.1
 obtain ⟨p0, p1, p2, p3⟩ := H2.out.1.sbc hn
 rw [hv] at p1
 rw [HMP.out] at p2
 clear hv p0
 have q2 := (HX.out.below (H2.out.2.2.1)).cells.2.1
 rw [HSE.out] at q2
 by_cases hbig : 12 < v.size
 ·have HE := Lib.hid (qmt (L := s.kv n) (k := k.data.toList) (g := g) (v := v.data.toList) (by simpa using hbig))
  have g1 : decide ((12 : Int) < v.size) = true := by simp; omega
  go_wp2
  go_ret
  unfold csL
  rw [HE.out.1, HE.out.2, if_neg (by decide), show qaf s.kv n (s.kv n) = s.kv from qau s.kv n, show qo s.mv n (some { m with cs := m.cs }) = s.mv by rw [show ({ m with cs := m.cs } : Mv) = m from rfl, ← HMV.out]; exact qau s.mv n]
  exact .idle HM.out H2.out.2.2.1
 have HG := Lib.hid (qmu (L := s.kv n) (k := k.data.toList) (g := g) (v := v.data.toList) (by simpa using hbig))
 rw [HF.out] at HG
 have g1 : decide ((12 : Int) < v.size) = false := by simp; omega
 cases g
 ·cases has
  ·by_cases hfull : (s.kv n).length = 12
   ·have HE := Lib.hid (HG.out.1 rfl rfl hfull)
    have g2 : decide ((12 : Int) ≤ ((s.kv n).length : Int)) = true := by simp; omega
    go_wp2
    go_ret
    unfold csL
    rw [HE.out.1, HE.out.2, if_neg (by decide), show qaf s.kv n (s.kv n) = s.kv from qau s.kv n, show qo s.mv n (some { m with cs := m.cs }) = s.mv by rw [show ({ m with cs := m.cs } : Mv) = m from rfl, ← HMV.out]; exact qau s.mv n]
    exact .idle HM.out H2.out.2.2.1
   ·have HE := Lib.hid (HG.out.2.1 rfl (.inr hfull))
    have g2 : decide ((12 : Int) ≤ ((s.kv n).length : Int)) = false := by simp; omega
    go_wp2
    go_region_with (first | (go_at_call 52; refine (qdx (d := 1) H2.out hn HV.out hL HR.out (fun h => by cases h)).mono ?_; rintro e w3 ⟨sa3, n3, cp3, rfl, h3⟩; have H3 := Lib.hid h3; obtain ⟨q0, q1, q2, q3⟩ := H3.out.m.sbc hn; rw [HMP.out] at q2; clear q0 h3))
    all_goals go_wp2
    all_goals
     change Code.wp _ (Code.region 16 dg1 true) _ _ _
     have M4 := Lib.hid (H3.out.stored hn)
     have HV4 := Lib.hid (M4.out.cvs hn (m := m) HMV.out)
     obtain ⟨x4, hx4, hr4⟩ := M4.out.rx hn (m := m) HMV.out
     have hx5 : x4 = x := xoi (hx4.symm.trans HXP.out)
     subst hx5
     obtain ⟨_, _, z2, _⟩ := M4.out.sbc hn
     have z2 := z2.trans (congrArg (fun o => some (Value.pointer o)) HMP.out)
     have z3 := H3.out.ca (n := n) HSB.out
     have HB4 := Lib.hid (H3.out.but (n := n))
     refine qqd (sb := B.sb) (cb := w.heap.size) (n := n) (x := x4) (pv := B.pv n) (cv := B.cv n) (m := m) (k := k) (v := v) (g := false) rfl rfl rfl rfl hr4 z2 z3.c0 z3.c1 z3.c2 HV4.out.1 (fun e => Nat.lt_irrefl _ ((HM.out.cvs hn HMV.out).2 _ e).2) HCS.out fun y w4 cv' hy hm4 hc4 hb4 => ?_
     rw [qxq]
     have H4 := Lib.hid (M4.out.app hn hx4 HMV.out hb4 hm4 hc4)
     have HBB := Lib.hid (HB4.out.trans (hb4.mono fun q hq => by
      rcases hq with rfl | hq
      ·exact HM.out.mpG hn HMV.out HXP.out
      ·exact ((HM.out.cvs hn HMV.out).2 q hq).1))
     clear hm4 hc4 hb4 hy hr4 hx4 z2 z3
     go_wp2
     go_ret
     unfold csL
     rw [HE.out.1, HE.out.2, if_pos rfl]
     exact ⟨rfl, ⟨B.ml, B.sb, qo B.lv n (.slice sa3 n3 cp3), B.mp, B.pv, qo B.cv n cv', B.sg, B.cap⟩, rfl, H4.out.mono fun b hb => hb.elim id fun h => .inr (xlt HB4.out.size h), HBB.out⟩
  ·have HE := Lib.hid (HG.out.2.1 rfl (.inl rfl))
   go_wp2
   go_region_with (first | (go_at_call 52; refine (qdx (d := 1) H2.out hn HV.out hL HR.out (fun h => by cases h)).mono ?_; rintro e w3 ⟨sa3, n3, cp3, rfl, h3⟩; have H3 := Lib.hid h3; obtain ⟨q0, q1, q2, q3⟩ := H3.out.m.sbc hn; rw [HMP.out] at q2; clear q0 h3))
   all_goals go_wp2
   all_goals
    change Code.wp _ (Code.region 16 dg1 true) _ _ _
    have M4 := Lib.hid (H3.out.stored hn)
    have HV4 := Lib.hid (M4.out.cvs hn (m := m) HMV.out)
    obtain ⟨x4, hx4, hr4⟩ := M4.out.rx hn (m := m) HMV.out
    have hx5 : x4 = x := xoi (hx4.symm.trans HXP.out)
    subst hx5
    obtain ⟨_, _, z2, _⟩ := M4.out.sbc hn
    have z2 := z2.trans (congrArg (fun o => some (Value.pointer o)) HMP.out)
    have z3 := H3.out.ca (n := n) HSB.out
    have HB4 := Lib.hid (H3.out.but (n := n))
    refine qqd (sb := B.sb) (cb := w.heap.size) (n := n) (x := x4) (pv := B.pv n) (cv := B.cv n) (m := m) (k := k) (v := v) (g := false) rfl rfl rfl rfl hr4 z2 z3.c0 z3.c1 z3.c2 HV4.out.1 (fun e => Nat.lt_irrefl _ ((HM.out.cvs hn HMV.out).2 _ e).2) HCS.out fun y w4 cv' hy hm4 hc4 hb4 => ?_
    rw [qxq]
    have H4 := Lib.hid (M4.out.app hn hx4 HMV.out hb4 hm4 hc4)
    have HBB := Lib.hid (HB4.out.trans (hb4.mono fun q hq => by
     rcases hq with rfl | hq
     ·exact HM.out.mpG hn HMV.out HXP.out
     ·exact ((HM.out.cvs hn HMV.out).2 q hq).1))
    clear hm4 hc4 hb4 hy hr4 hx4 z2 z3
    go_wp2
    go_ret
    unfold csL
    rw [HE.out.1, HE.out.2, if_pos rfl]
    exact ⟨rfl, ⟨B.ml, B.sb, qo B.lv n (.slice sa3 n3 cp3), B.mp, B.pv, qo B.cv n cv', B.sg, B.cap⟩, rfl, H4.out.mono fun b hb => hb.elim id fun h => .inr (xlt HB4.out.size h), HBB.out⟩
 ·cases has
  ·have HE := Lib.hid (HG.out.2.2.1 rfl rfl)
   go_wp2
   go_ret
   unfold csL
   rw [HE.out.1, HE.out.2, if_neg (by decide), show qaf s.kv n (s.kv n) = s.kv from qau s.kv n, show qo s.mv n (some { m with cs := m.cs }) = s.mv by rw [show ({ m with cs := m.cs } : Mv) = m from rfl, ← HMV.out]; exact qau s.mv n]
   exact .idle HM.out H2.out.2.2.1
  ·have HE := Lib.hid (HG.out.2.2.2 rfl rfl)
   go_wp2
   go_region_with (first | (go_at_call 52; refine (qdx (d := 1) H2.out hn HV.out hL HR.out (fun _ => HF.out)).mono ?_; rintro e w3 ⟨sa3, n3, cp3, rfl, h3⟩; have H3 := Lib.hid h3; obtain ⟨q0, q1, q2, q3⟩ := H3.out.m.sbc hn; rw [HMP.out] at q2; clear q0 h3))
   all_goals go_wp2
   all_goals
    change Code.wp _ (Code.region 16 dg1 true) _ _ _
    have M4 := Lib.hid (H3.out.stored hn)
    have HV4 := Lib.hid (M4.out.cvs hn (m := m) HMV.out)
    obtain ⟨x4, hx4, hr4⟩ := M4.out.rx hn (m := m) HMV.out
    have hx5 : x4 = x := xoi (hx4.symm.trans HXP.out)
    subst hx5
    obtain ⟨_, _, z2, _⟩ := M4.out.sbc hn
    have z2 := z2.trans (congrArg (fun o => some (Value.pointer o)) HMP.out)
    have z3 := H3.out.ca (n := n) HSB.out
    have HB4 := Lib.hid (H3.out.but (n := n))
    refine qqd (sb := B.sb) (cb := w.heap.size) (n := n) (x := x4) (pv := B.pv n) (cv := B.cv n) (m := m) (k := k) (v := v) (g := true) rfl rfl rfl rfl hr4 z2 z3.c0 z3.c1 z3.c2 HV4.out.1 (fun e => Nat.lt_irrefl _ ((HM.out.cvs hn HMV.out).2 _ e).2) HCS.out fun y w4 cv' hy hm4 hc4 hb4 => ?_
    rw [qxq]
    have H4 := Lib.hid (M4.out.app hn hx4 HMV.out hb4 hm4 hc4)
    have HBB := Lib.hid (HB4.out.trans (hb4.mono fun q hq => by
     rcases hq with rfl | hq
     ·exact HM.out.mpG hn HMV.out HXP.out
     ·exact ((HM.out.cvs hn HMV.out).2 q hq).1))
    clear hm4 hc4 hb4 hy hr4 hx4 z2 z3
    go_wp2
    go_ret
    unfold csL
    rw [HE.out.1, HE.out.2, if_pos rfl]
    exact ⟨rfl, ⟨B.ml, B.sb, qo B.lv n (.slice sa3 n3 cp3), B.mp, B.pv, qo B.cv n cv', B.sg, B.cap⟩, rfl, H4.out.mono fun b hb => hb.elim id fun h => .inr (xlt HB4.out.size h), HBB.out⟩
theorem qtq (h : MAt w G B s) (hl : ∀ i, i < 4 → (s.kv i).length ≤ 12) (hri : ∀ i, i < 4 → zi (s.kv i)) (hcs : ∀ i, i < 4 → ∀ m, s.mv i = some m → m.cs.length ≤ 1073741820) (k v : ByteArray) (g : Bool) :
  Calls Tryz.prog 24 #[.pointer (some ⟨B.ml, 0, none⟩), .agg #[.string k, .string v, .bool g]] w (qdt w G B (.int .i64 (chE s k v g)) (chS s k v g)) := by
 cases hk : qaz k.data.toList
 ·refine (qre (ml := B.ml) k v g hk).mono fun e w' ⟨h1, h2⟩ => ?_
  unfold chE chS
  rw [hk, h1]
  exact .idle h h2
 ·have hn := qc0 k.data.toList
  obtain ⟨n, hnn⟩ : ∃ n, ji k.data.toList = n := ⟨_, rfl⟩
  unfold chE chS
  rw [hnn] at hn
  rw [hk, hnn]
  cases hmv : s.mv n with
  |none =>
   have e : qo s.mv n (Option.map (fun m : Mv => { m with cs := csL (s.kv n) m.cs k v g }) none) = s.mv := by
    funext i; unfold qo; split
    ·rename_i e; rw [e, hmv]; rfl
    ·rfl
   show Calls _ _ _ _ (qdt w G B (.int .i64 (xu (s.kv n) k.data.toList v.data.toList g)) { s with kv := _, mv := qo s.mv n (Option.map (fun m : Mv => { m with cs := csL (s.kv n) m.cs k v g }) none) })
   rw [e]
   exact qmy k v g hn hk hnn (hl n hn) (hri n hn) h hmv
  |some m =>
   cases hse : m.sealed
   ·rw [show qab (some m) = false from hse]
    exact qmx k v g hn hk hnn (hl n hn) (hri n hn) h hmv hse (hcs n hn m hmv)
   ·rw [show qab (some m) = true from hse]
    exact qjw k v g hn hk hnn (hl n hn) (hri n hn) h hmv hse
end
section
variable {e : Operand → Value} {o : Oper} {p q r s : Operand} {v : Value} {g f k : Nat} {w : World} {i j l : Int} {sa : Option Addr} {n cp : Nat}
theorem qza (h : o.op = .fieldAddr 83 p 3) (hp : e p = .pointer (some ⟨g, 0, none⟩)) : (execOp e o).run Tryz.prog w = .ok (.value (.pointer (some ⟨g, 14, none⟩))) w := by
 have hu := Tryz.underlying83
 unfold execOp
 simp [go_sem, h, hp, hu]
theorem qrk (h : o.op = .build 135 #[(0, p), (1, q), (2, r), (3, s)]) (hp : e p = .int .i64 i) (hq : e q = .int .i64 j) (hr : e r = .int .i64 l) (hs : e s = .slice sa n cp) : (execOp e o).run Tryz.prog w = .ok (.value (.agg #[.int .i64 i, .int .i64 j, .int .i64 l, .slice sa n cp, .slice none 0 0, .int .u8 0, .int .i64 0, .int .i64 0, .int .i64 0, .string ⟨#[]⟩, .string ⟨#[]⟩, .int .i64 0, .bool false])) w := by
 unfold execOp
 simp [go_sem, h, hp, hq, hr, hs]
theorem qy9 {i j l : Int} {sa : Option Addr} {n cp : Nat} (h : o.op = .box 135 p) (hp : e p = .agg #[.int .i64 i, .int .i64 j, .int .i64 l, .slice sa n cp, .slice none 0 0, .int .u8 0, .int .i64 0, .int .i64 0, .int .i64 0, .string ⟨#[]⟩, .string ⟨#[]⟩, .int .i64 0, .bool false]) : (execOp e o).run Tryz.prog w = .ok (.value (.pointer (some ⟨w.heap.size, 0, none⟩))) (w.alloc (.cells #[.int .i64 i, .int .i64 j, .int .i64 l, .slice sa n cp, .slice none 0 0, .int .u8 0, .int .i64 0, .int .i64 0, .int .i64 0, .string ⟨#[]⟩, .string ⟨#[]⟩, .int .i64 0, .bool false] 135)) := by
 have hA := Tryz.isAgg135
 unfold execOp
 simp [go_sem, h, hp, hA]
theorem qul {a : Act} {o : Oper} {p q r : Operand} {f : FuncId} {ty : Array TypeId} {u v x : Value} {fn : Func} {w : World} (h : o.op = .call { callee := .value (.func f), args := #[p, q, r], argTypes := ty }) (hp : a.eval p = u) (hq : a.eval q = v) (hr : a.eval r = x) (hf : Tryz.prog.funcs[f]? = some fn) (hname : (fn.name == "runtime.NumGoroutine") = false) (hb : fn.body.isNone = false) : (execOp a.eval o).run Tryz.prog w = .ok (.enter f #[u, v, x]) w := by
 rw [run_call_body h hf hname hb]
 simp [hp, hq, hr]
theorem q1n (L : KV) : L.filter (inB [] []) = L := by
 rw [List.filter_eq_self]
 intro p _
 have e : bytesBefore p.1 [] = false := by cases p.1 <;> rfl
 simp [inB, e]
end
noncomputable def bg1 : Array Oper := match Tryz.f58.body with
 |some (.seq _ (.seq a _)) => rg a
 |_ => #[]
theorem jap (y : Nat → Value) : lay 46 y = #[y 0, y 1, y 2, y 3, y 4, y 5, y 6, y 7, y 8, y 9, y 10, y 11, y 12, y 13, y 14, y 15, y 16, y 17, y 18, y 19, y 20, y 21, y 22, y 23, y 24, y 25, y 26, y 27, y 28, y 29, y 30, y 31, y 32, y 33, y 34, y 35, y 36, y 37, y 38, y 39, y 40, y 41, y 42, y 43, y 44, y 45] := rfl
noncomputable def bgo (k : Nat) : Oper := bg1.getD k ⟨none, .alloc 0, 0, "", #[], none⟩
theorem q0n : qha bg1 46 = true := by kernel_rfl
section
variable {cl n db mb id ow to : Nat} {L : KV} {w0 : World}
def Kbg (cl n db id ow to : Nat) (L : KV) (w0 : World) : Nat → Value → World → Prop
 |0, u, _ => u = .pointer (some ⟨cl, 1 + n * 3, none⟩)
 |1, u, _ => u = .pointer (some ⟨cl, 0, none⟩)
 |2, u, _ => u = .pointer (some ⟨cl, 0, none⟩)
 |3, u, _ => u = .pointer (some ⟨cl, 14, none⟩)
 |4, u, _ => u = .int .i64 id
 |5, u, _ => u = .pointer (some ⟨cl, 1 + n * 3, none⟩)
 |6, u, _ => u = .pointer (some ⟨cl, 1 + n * 3, none⟩)
 |7, u, _ => u = .pointer (some ⟨cl, 1 + n * 3, none⟩)
 |8, u, _ => u = .int .i64 ow
 |9, u, _ => u = .int .i64 to
 |10, u, _ => u = .pointer (some ⟨cl, 1 + n * 3, none⟩)
 |11, u, _ => u = .pointer (some ⟨cl, 1 + n * 3, none⟩)
 |12, u, _ => u = .pointer (some ⟨cl, 1 + n * 3 + 1, none⟩)
 |13, u, _ => u = .pointer (some ⟨db, 0, none⟩)
 |14, u, w => ∃ s c, u = .slice s L.length c ∧ w.ownsRow w0.heap.size 74 2 u L.length (flat L)
 |15, u, w => ∃ s c, u = .agg #[.int .i64 id, .int .i64 ow, .int .i64 to, (.slice s L.length c), .slice none 0 0, .int .u8 0, .int .i64 0, .int .i64 0, .int .i64 0, .string ⟨#[]⟩, .string ⟨#[]⟩, .int .i64 0, .bool false] ∧ w.ownsRow w0.heap.size 74 2 (.slice s L.length c) L.length (flat L)
 |16, u, w => ∃ s c g, u = .pointer (some ⟨g, 0, none⟩) ∧ w0.heap.size ≤ g ∧ w.heap[g]? = some (.cells #[.int .i64 id, .int .i64 ow, .int .i64 to, (.slice s L.length c), .slice none 0 0, .int .u8 0, .int .i64 0, .int .i64 0, .int .i64 0, .string ⟨#[]⟩, .string ⟨#[]⟩, .int .i64 0, .bool false] 135 (0, 0)) ∧ w.ownsRow w0.heap.size 74 2 (.slice s L.length c) L.length (flat L)
 |17, u, _ => u = .pointer (some ⟨cl, 1 + n * 3, none⟩)
 |18, u, _ => u = .pointer (some ⟨cl, 1 + n * 3 + 2, none⟩)
 |_, _, _ => True
theorem qlj (j : Nat) (u : Value) (w w' : World) (hb : Below w.heap.size w w') (h : Kbg cl n db id ow to L w0 j u w) : Kbg cl n db id ow to L w0 j u w' := by
 match j, h with
 |0, h => exact h
 |1, h => exact h
 |2, h => exact h
 |3, h => exact h
 |4, h => exact h
 |5, h => exact h
 |6, h => exact h
 |7, h => exact h
 |8, h => exact h
 |9, h => exact h
 |10, h => exact h
 |11, h => exact h
 |12, h => exact h
 |13, h => exact h
 |14, ⟨s, c, h1, h2⟩ => exact ⟨s, c, h1, qj h2 fun q hq => hb.block q (h2.lt q hq).2⟩
 |15, ⟨s, c, h1, h2⟩ => exact ⟨s, c, h1, qj h2 fun q hq => hb.block q (h2.lt q hq).2⟩
 |16, ⟨s, c, g, h1, h2, h3, h4⟩ => exact ⟨s, c, g, h1, h2, (hb.block g (zx h3).1).trans h3, qj h4 fun q hq => hb.block q (h4.lt q hq).2⟩
 |17, h => exact h
 |18, h => exact h
 |i + 19, _ => trivial
theorem q8x {w : World} {a : Act} {Q : Exit → Act → World → Prop} (hsz : a.tmps.size = 46) (hdf : a.defers = []) (h0 : a.tmps.getD 0 undef = .pointer (some ⟨cl, 0, none⟩)) (h1 : a.tmps.getD 1 undef = .pointer (some ⟨cl, 1 + n * 3, none⟩)) (h3 : a.tmps.getD 3 undef = .int .i64 to)
  (cI : w.cell? ⟨cl, 14, none⟩ = some (.int .i64 id)) (cO : w.cell? ⟨cl, 1 + n * 3, none⟩ = some (.int .i64 ow)) (cD : w.cell? ⟨cl, 1 + n * 3 + 1, none⟩ = some (.pointer (some ⟨db, 0, none⟩))) (cV : ∃ v, w.cell? ⟨cl, 1 + n * 3 + 2, none⟩ = some v) (fV : w.frozen? ⟨cl, 1 + n * 3 + 2, none⟩ = false) (cm : w.cell? ⟨db, 0, none⟩ = some (.map (some mb))) (hm : j4 w mb L) (hri : zi L) (hL : L.length ≤ 12) (hks : ∀ p ∈ L, p.1.length ≤ maxLen)
  (hQ : ∀ y w1 g s c, (∀ s, (∀ (j : Nat) o, bg1[j]? = some o → o.dst ≠ some s) → y s = a.tmps.getD s undef) → Below w.heap.size w w1 → w.heap.size ≤ g → w1.heap[g]? = some (.cells #[.int .i64 id, .int .i64 ow, .int .i64 to, (.slice s L.length c), .slice none 0 0, .int .u8 0, .int .i64 0, .int .i64 0, .int .i64 0, .string ⟨#[]⟩, .string ⟨#[]⟩, .int .i64 0, .bool false] 135 (0, 0)) → w1.ownsRow w.heap.size 74 2 (.slice s L.length c) L.length (flat L) → Q .normal ⟨lay 46 y, []⟩ (w1.setCell ⟨cl, 1 + n * 3 + 2, none⟩ (.pointer (some ⟨g, 0, none⟩)))) : (Code.region 1 bg1 true).wp Tryz.prog Q a w := by
 have ltl := xbl w _ cI
 have ltd := xbl w _ cm
 refine qa5 (n := 46) (x0 := fun s => a.tmps.getD s undef) (turn := 20) (KN := Kbg cl n db id ow to L w) (J := fun _ w1 => Below w.heap.size w w1) (by kernel_rfl) q0n ⟨_, ?_, fun _ => rfl⟩ (Below.drew (jo _ _)) ?_ ?_
 ·obtain ⟨t, df⟩ := a
  obtain rfl : df = [] := hdf
  rw [qel hsz]
 ·intro j o d y w1 b hbt ho hd hy qz hJ
  have old : ∀ q, q < w.heap.size → w1.heap[q]? = w.heap[q]? := fun q h1 => hJ.block q h1
  have y0 : y 0 = .pointer (some ⟨cl, 0, none⟩) := (hy 0 (qcy (by kernel_rfl))).trans h0
  have y1 : y 1 = .pointer (some ⟨cl, 1 + n * 3, none⟩) := (hy 1 (qcy (by kernel_rfl))).trans h1
  have y3 : y 3 = .int .i64 to := (hy 3 (qcy (by kernel_rfl))).trans h3
  match j, ho with
  |0, ho =>
   obtain rfl := qw (a := bgo 0) rfl ho
   obtain rfl := qw (a := 15) rfl hd
   exact qh (run_move rfl (qp y1)) ⟨_, qc rfl, rfl, hJ, fun _ _ _ h => h⟩
  |1, ho =>
   obtain rfl := qw (a := bgo 1) rfl ho
   obtain rfl := qw (a := 16) rfl hd
   exact qh (run_move rfl (qp y0)) ⟨_, qc rfl, rfl, hJ, fun _ _ _ h => h⟩
  |2, ho =>
   obtain rfl := qw (a := bgo 2) rfl ho
   obtain rfl := qw (a := 17) rfl hd
   have k1 := qz 1 (bgo 1) 16 rfl rfl (qg rfl)
   exact qh (ve rfl (qp k1)) ⟨_, qc rfl, rfl, hJ, fun _ _ _ h => h⟩
  |3, ho =>
   obtain rfl := qw (a := bgo 3) rfl ho
   obtain rfl := qw (a := 18) rfl hd
   have k2 := qz 2 (bgo 2) 17 rfl rfl (qg rfl)
   exact qh (qza rfl (qp k2)) ⟨_, qc rfl, rfl, hJ, fun _ _ _ h => h⟩
  |4, ho =>
   obtain rfl := qw (a := bgo 4) rfl ho
   obtain rfl := qw (a := 19) rfl hd
   have k3 := qz 3 (bgo 3) 18 rfl rfl (qg rfl)
   exact qh (jg (ty := 3) rfl (qp k3) (by simp [isAgg, Tryz.underlying3]) ((xcb (old cl ltl)).trans cI)) ⟨_, qc rfl, rfl, hJ, fun _ _ _ h => h⟩
  |5, ho =>
   obtain rfl := qw (a := bgo 5) rfl ho
   obtain rfl := qw (a := 20) rfl hd
   exact qh (run_move rfl (qp y1)) ⟨_, qc rfl, rfl, hJ, fun _ _ _ h => h⟩
  |6, ho =>
   obtain rfl := qw (a := bgo 6) rfl ho
   obtain rfl := qw (a := 21) rfl hd
   have k5 := qz 5 (bgo 5) 20 rfl rfl (qg rfl)
   exact qh (ve rfl (qp k5)) ⟨_, qc rfl, rfl, hJ, fun _ _ _ h => h⟩
  |7, ho =>
   obtain rfl := qw (a := bgo 7) rfl ho
   obtain rfl := qw (a := 22) rfl hd
   have k6 := qz 6 (bgo 6) 21 rfl rfl (qg rfl)
   exact qh (qcd 0 (by decide) rfl (qp k6)) ⟨_, qc rfl, rfl, hJ, fun _ _ _ h => h⟩
  |8, ho =>
   obtain rfl := qw (a := bgo 8) rfl ho
   obtain rfl := qw (a := 23) rfl hd
   have k7 := qz 7 (bgo 7) 22 rfl rfl (qg rfl)
   exact qh (jg (ty := 3) rfl (qp k7) (by simp [isAgg, Tryz.underlying3]) ((xcb (old cl ltl)).trans cO)) ⟨_, qc rfl, rfl, hJ, fun _ _ _ h => h⟩
  |9, ho =>
   obtain rfl := qw (a := bgo 9) rfl ho
   obtain rfl := qw (a := 24) rfl hd
   exact qh (run_move rfl (qp y3)) ⟨_, qc rfl, rfl, hJ, fun _ _ _ h => h⟩
  |10, ho =>
   obtain rfl := qw (a := bgo 10) rfl ho
   obtain rfl := qw (a := 25) rfl hd
   exact qh (run_move rfl (qp y1)) ⟨_, qc rfl, rfl, hJ, fun _ _ _ h => h⟩
  |11, ho =>
   obtain rfl := qw (a := bgo 11) rfl ho
   obtain rfl := qw (a := 26) rfl hd
   have k10 := qz 10 (bgo 10) 25 rfl rfl (qg rfl)
   exact qh (ve rfl (qp k10)) ⟨_, qc rfl, rfl, hJ, fun _ _ _ h => h⟩
  |12, ho =>
   obtain rfl := qw (a := bgo 12) rfl ho
   obtain rfl := qw (a := 27) rfl hd
   have k11 := qz 11 (bgo 11) 26 rfl rfl (qg rfl)
   exact qh (qcd 1 (by decide) rfl (qp k11)) ⟨_, qc rfl, rfl, hJ, fun _ _ _ h => h⟩
  |13, ho =>
   obtain rfl := qw (a := bgo 13) rfl ho
   obtain rfl := qw (a := 28) rfl hd
   have k12 := qz 12 (bgo 12) 27 rfl rfl (qg rfl)
   exact qh (jg (ty := 77) rfl (qp k12) (by simp [isAgg, Tryz.underlying77]) ((xcb (old cl ltl)).trans cD)) ⟨_, qc rfl, rfl, hJ, fun _ _ _ h => h⟩
  |14, ho =>
   obtain rfl := qw (a := bgo 14) rfl ho
   obtain rfl := qw (a := 29) rfl hd
   have k13 := qz 13 (bgo 13) 28 rfl rfl (qg rfl)
   refine qc8 (qul rfl (qp k13) rfl rfl Tryz.func56 rfl rfl) (qsr ((xcb (old _ ltd)).trans cm) (hm.block (old _ hm.lt)) hri hL hks ⟨#[]⟩ ⟨#[]⟩) ?_
   have he : L.filter (inB (⟨#[]⟩ : ByteArray).data.toList (⟨#[]⟩ : ByteArray).data.toList) = L := q1n L
   rw [he]
   rintro e w2 ⟨v, rfl, hr, hb⟩
   obtain ⟨s, c, rfl⟩ := qb0 hr
   exact ⟨_, rfl, _, qc rfl, ⟨s, c, rfl, (qdj hr.1 hr.2 hJ.size rfl).1⟩, hJ.trans (hb.mono hJ.size), fun i u _ h => qlj i u _ _ hb h⟩
  |15, ho =>
   obtain rfl := qw (a := bgo 15) rfl ho
   obtain rfl := qw (a := 30) rfl hd
   have k4 := qz 4 (bgo 4) 19 rfl rfl (qg rfl)
   have k8 := qz 8 (bgo 8) 23 rfl rfl (qg rfl)
   have k9 := qz 9 (bgo 9) 24 rfl rfl (qg rfl)
   obtain ⟨s, c, k14, r14⟩ : Kbg cl n db id ow to L w 14 (y 29) w1 := qz 14 (bgo 14) 29 rfl rfl (qg rfl)
   exact qh (qrk rfl (qp k4) (qp k8) (qp k9) (qp k14)) ⟨_, qc rfl, ⟨s, c, rfl, k14 ▸ r14⟩, hJ, fun _ _ _ h => h⟩
  |16, ho =>
   obtain rfl := qw (a := bgo 16) rfl ho
   obtain rfl := qw (a := 31) rfl hd
   obtain ⟨s, c, k15, r15⟩ : Kbg cl n db id ow to L w 15 (y 30) w1 := qz 15 (bgo 15) 30 rfl rfl (qg rfl)
   have hbl : Below w1.heap.size w1 (w1.alloc (.cells #[.int .i64 id, .int .i64 ow, .int .i64 to, (.slice s L.length c), .slice none 0 0, .int .u8 0, .int .i64 0, .int .i64 0, .int .i64 0, .string ⟨#[]⟩, .string ⟨#[]⟩, .int .i64 0, .bool false] 135)) := (jo _ _).alloc (jy _) _
   exact qh (qy9 rfl (qp k15)) ⟨_, qc rfl, ⟨s, c, w1.heap.size, rfl, hJ.size, heap_alloc_new _ _, qj r15 fun q hq => hbl.block q (r15.lt q hq).2⟩, hJ.trans (hbl.mono hJ.size), fun i u _ h => qlj i u _ _ hbl h⟩
  |17, ho =>
   obtain rfl := qw (a := bgo 17) rfl ho
   obtain rfl := qw (a := 32) rfl hd
   have k0 := qz 0 (bgo 0) 15 rfl rfl (qg rfl)
   exact qh (ve rfl (qp k0)) ⟨_, qc rfl, rfl, hJ, fun _ _ _ h => h⟩
  |18, ho =>
   obtain rfl := qw (a := bgo 18) rfl ho
   obtain rfl := qw (a := 33) rfl hd
   have k17 := qz 17 (bgo 17) 32 rfl rfl (qg rfl)
   exact qh (qcd 2 (by decide) rfl (qp k17)) ⟨_, qc rfl, rfl, hJ, fun _ _ _ h => h⟩
  |19, ho =>
   obtain rfl := qw (a := bgo 19) rfl ho
   exact absurd (show (bgo 19).dst = none from rfl) (by rw [hd]; exact fun e => by cases e)
  |i + 20, ho => exact absurd ho (by rw [Array.getElem?_eq_none (show bg1.size ≤ i + 20 by show 20 ≤ i + 20; omega)]; exact fun e => by cases e)
 ·intro mm o y w1 hmm ho hy hk hJ
  obtain rfl : mm = 19 := by
   have : mm + 1 = 20 := hmm
   omega
  obtain rfl := qw (a := bgo 19) rfl ho
  have ka : y 33 = .pointer (some ⟨cl, 1 + n * 3 + 2, none⟩) := hk 18 (bgo 18) 33 rfl rfl
  obtain ⟨s, c, g, kb, q1, q2, q3⟩ : Kbg cl n db id ow to L w 16 (y 31) w1 := hk 16 (bgo 16) 31 rfl rfl
  obtain ⟨v0, cV⟩ := cV
  have hlt := xbl w _ cV
  have hc1 : w1.cell? ⟨cl, 1 + n * 3 + 2, none⟩ = some v0 := (xcb (hJ.block _ hlt)).trans cV
  have hf1 : w1.frozen? ⟨cl, 1 + n * 3 + 2, none⟩ = false := (World.frozen?_of_block (hJ.block _ hlt)).trans fV
  have hr : (execOp (Act.mk (lay 46 y) []).eval (bgo 19)).run Tryz.prog w1 = .ok .skip (w1.setCell ⟨cl, 1 + n * 3 + 2, none⟩ (.pointer (some ⟨g, 0, none⟩))) := by
   have e1 : (Act.mk (lay 46 y) []).eval (.tmp 33) = .pointer (some ⟨cl, 1 + n * 3 + 2, none⟩) := tmp (by decide) ka
   have e2 : (Act.mk (lay 46 y) []).eval (.tmp 31) = .pointer (some ⟨g, 0, none⟩) := tmp (by decide) kb
   have hop : (bgo 19).op = .store 78 (.tmp 33) (.tmp 31) := rfl
   have hu := Tryz.underlying78
   generalize (Act.mk (lay 46 y) []).eval = ev at *
   unfold execOp
   simp [go_sem, hop, e1, e2, hu, isAgg, hc1, hf1]
  unfold Oper.wp
  rw [hr]
  exact hQ y w1 g s c hy hJ q1 q2 q3
end
end Go.Proofs.YtkpekiajdlolnabGreat.Ph
namespace Go.Proofs.YtkpekiajdlolnabGreat
open Go.RowKit Go.Maps
section
variable {w w' : World} {F F' : Nat → Prop} {A : PA} {s : St} {n : Nat}
theorem PAt.turn (h : PAt w F A s) (A' : PA) (s' : St) (hb : But (· = A.cl) w w') (hcl : w'.heap[A.cl]? = some (.cells (zy A' s') 83 (0, 0))) (e1 : A'.cl = A.cl) (e2 : A'.db = A.db) (e3 : A'.mb = A.mb) (e4 : A'.sm = A.sm) (e5 : s'.kv = s.kv) (e6 : s'.stg = s.stg)
  (hmv : ∀ i, i < 4 → (∀ (b : Nat) (cur : Array Value) (ty : TypeId), w.heap[b]? = some (Obj.cells cur ty (0, 0)) → ty ≠ 83 → w'.heap[b]? = w.heap[b]?) → qcl w' F' A' i (s'.mv i)) (hF : ∀ b, F b → F' b)
  (hmp : ∀ i j g, i < 4 → j < 4 → A'.mp i = some g → A'.mp j = some g → i = j) (hcv : ∀ i j g, i < 4 → j < 4 → (A'.cv i).ownBlock = some g → (A'.cv j).ownBlock = some g → i = j) : PAt w' F' A' s' := by
 have lt : ∀ {b : Nat} {o : Obj}, w.heap[b]? = some o → b < w.heap.size := fun hb => (zx hb).1
 have noT : ∀ (b : Nat) (cur : Array Value) (ty : TypeId), w.heap[b]? = some (Obj.cells cur ty (0, 0)) → ty ≠ 83 → w'.heap[b]? = w.heap[b]? := fun b cur ty hbb n1 => hb.keep b (lt hbb) fun e => by
  rw [e, h.cl.2] at hbb
  have e2 := xoi hbb
  injection e2 with _ e3
  exact n1 e3.symm
 have noM : ∀ b, (∃ es ck, w.heap[b]? = some (Obj.map es ck)) → w'.heap[b]? = w.heap[b]? := fun b ⟨es, ck, hbb⟩ => hb.keep b (lt hbb) fun e => by
  rw [e, h.cl.2] at hbb; cases hbb
 refine ⟨⟨hF _ (e1 ▸ h.cl.1), e1 ▸ hcl⟩, fun i hi => ?_, fun i hi => ?_, by rw [e3]; exact h.mbi, fun i hi => hmv i hi noT, hmp, hcv, ?_, by rw [e3, e4]; exact h.smb⟩
 ·rw [e2, e3]
  exact ⟨hF _ (h.db i hi).1, (noT _ _ _ (h.db i hi).2 (by decide)).trans (h.db i hi).2⟩
 ·rw [e3, e5]
  obtain ⟨es, ck, hbb, _⟩ := (h.mb i hi).2
  exact ⟨hF _ (h.mb i hi).1, (h.mb i hi).2.block (noM _ ⟨es, ck, hbb⟩)⟩
 ·rw [e4, e6]
  exact ⟨h.stg.1, hF _ h.stg.2.1, (noM _ ⟨_, _, h.stg.2.2⟩).trans h.stg.2.2⟩
theorem PAt.drop (h : PAt w F A s) (hn : n < 4) : PAt (w.setCell ⟨A.cl, 1 + n * 3 + 2, none⟩ (.pointer none)) F { A with mp := qo A.mp n none, cv := qo A.cv n (.slice none 0 0) } { s with mv := qo s.mv n none } ∧ But F w (w.setCell ⟨A.cl, 1 + n * 3 + 2, none⟩ (.pointer none)) := by
 have hs := xhs w A.cl (1 + n * 3 + 2) _ _ (.pointer none) h.cl.2
 have hb : But (· = A.cl) w (w.setCell ⟨A.cl, 1 + n * 3 + 2, none⟩ (.pointer none)) := But.setCell (B := (· = A.cl)) (But.refl _ _) rfl _ _
 refine ⟨h.turn _ _ hb ?_ rfl rfl rfl rfl rfl rfl (fun i hi no => ?_) (fun _ h => h) (fun i j g hi hj h1 h2 => ?_) (fun i j g hi hj h1 h2 => ?_), hb.mono fun b e => e ▸ h.cl.1⟩
 ·rw [hs]
  match n, hn with
  |0, _ | 1, _ | 2, _ | 3, _ => rfl
 ·show qcl _ F _ i (qo s.mv n none i)
  by_cases e : i = n
  ·subst e
   rw [ja]
   exact ⟨ja .., by show (qo A.cv i (.slice none 0 0) i).ownBlock = none; rw [ja]; rfl⟩
  ·rw [qy _ _ e]
   have h0 := (h.mv i hi).keep (w' := w.setCell ⟨A.cl, 1 + n * 3 + 2, none⟩ (.pointer none)) (fun b c _ hb => no b c _ hb (by decide)) (fun b c _ hb => no b c _ hb (by decide)) (fun b c _ hb => no b c _ hb (by decide))
   have e1 : qo A.mp n none i = A.mp i := qy _ _ e
   have e2 : qo A.cv n (.slice none 0 0) i = A.cv i := qy _ _ e
   cases hm : s.mv i with
   |none => rw [hm] at h0; exact ⟨e1.trans h0.1, by show (qo A.cv n (.slice none 0 0) i).ownBlock = none; rw [e2]; exact h0.2⟩
   |some m =>
    rw [hm] at h0
    obtain ⟨g, z1, z2, z3, z4, z5, z6, z7⟩ := h0
    refine ⟨g, e1.trans z1, z2, ?_, z4, ?_, z6, ?_⟩
    ·rw [z3]; show _ = some (Obj.cells (j3 i (A.pv i) (qo A.cv n (.slice none 0 0) i) (A.ld i) m) _ _); rw [e2]
    ·show qjd _ (qo A.cv n (.slice none 0 0) i) m.cs; rw [e2]; exact z5
    ·intro b hb
     have hb : (qo A.cv n (.slice none 0 0) i).ownBlock = some b := hb
     rw [e2] at hb
     exact z7 b hb
 ·have h1 : qo A.mp n none i = some g := h1
  have h2 : qo A.mp n none j = some g := h2
  by_cases e1 : i = n
  ·subst e1; rw [ja] at h1; cases h1
  ·by_cases e2 : j = n
   ·subst e2; rw [ja] at h2; cases h2
   ·rw [qy _ _ e1] at h1
    rw [qy _ _ e2] at h2
    exact h.mpi i j g hi hj h1 h2
 ·have h1 : (qo A.cv n (.slice none 0 0) i).ownBlock = some g := h1
  have h2 : (qo A.cv n (.slice none 0 0) j).ownBlock = some g := h2
  by_cases e1 : i = n
  ·subst e1; rw [ja] at h1; cases h1
  ·by_cases e2 : j = n
   ·subst e2; rw [ja] at h2; cases h2
   ·rw [qy _ _ e1] at h1
    rw [qy _ _ e2] at h2
    exact h.cvi i j g hi hj h1 h2
def movE (s : St) (k : Int) : Int := if k < 0 ∨ 3 < k then 8 else match s.mv k.toNat with
 |none => 11
 |some _ => 0
theorem qka (k : Int) (hk : k < 0 ∨ 3 < k) (hk2 : -9223372036854775808 ≤ k ∧ k ≤ 9223372036854775807) (cl : Nat) : Calls Tryz.prog 60 #[.pointer (some ⟨cl, 0, none⟩), .int .i64 k] w fun e w' => e = .returned (.tuple #[.pointer none, .int .i64 8]) ∧ w' = w := by
 rcases Int.lt_or_le k 0 with h2 | h2
 ·have g1 : decide (k < 0) = true := xdt h2
  go_enter Tryz.func60, Tryz.ntmps60
  go_wp2
  go_ret2
  exact ⟨rfl, rfl⟩
 ·have g1 : decide (k < 0) = false := xdf (by omega)
  have g2 : decide (4 ≤ k) = true := xdt (by omega)
  go_enter Tryz.func60, Tryz.ntmps60
  go_wp2
  go_ret2
  exact ⟨rfl, rfl⟩
theorem ql6 (h : PAt w F A s) (hn : n < 4) : Calls Tryz.prog 60 #[.pointer (some ⟨A.cl, 0, none⟩), .int .i64 n] w fun e w' => (match s.mv n with
  |none => e = .returned (.tuple #[.pointer none, .int .i64 11])
  |some _ => e = .returned (.tuple #[.pointer (some ⟨A.cl, 1 + n * 3, none⟩), .int .i64 0])) ∧ w' = w := by
 have hn3 : ((n : Int) < 4) := by omega
 have g1 : decide ((n : Int) < 0) = false := xdf (by omega)
 have g2 : decide ((4 : Int) ≤ n) = false := xdf (by omega)
 have c := (h.part n hn).v
 have hm := h.mv n hn
 cases hmv : s.mv n with
 |none =>
  rw [hmv] at hm
  rw [hm.1] at c
  have c : w.cell? ⟨A.cl, 1 + n * 3 + 2, none⟩ = some (.pointer none) := c
  clear hm h
  go_enter Tryz.func60, Tryz.ntmps60
  go_wp2
  go_ret2
  exact ⟨rfl, rfl⟩
 |some m =>
  rw [hmv] at hm
  obtain ⟨x, z1, _⟩ := hm
  rw [z1] at c
  have c : w.cell? ⟨A.cl, 1 + n * 3 + 2, none⟩ = some (.pointer (some ⟨x, 0, none⟩)) := c
  clear z1 h
  go_enter Tryz.func60, Tryz.ntmps60
  go_wp2
  go_ret2
  exact ⟨rfl, rfl⟩
end
end Go.Proofs.YtkpekiajdlolnabGreat
namespace Go.Proofs.YtkpekiajdlolnabGreat.Ph
open Go.Conc Go.ConcN Go.RowKit Go.Maps Go.Conc.Lib Go Sim
def abE (s : St) (k : Int) : Int := if k < 0 ∨ 3 < k then 8 else match s.mv k.toNat with
 |none => 11
 |some m => if m.sealed then 12 else 0
def abS (s : St) (k : Int) : St := if k < 0 ∨ 3 < k then s else match s.mv k.toNat with
 |none => s
 |some m => if m.sealed then s else { s with mv := qo s.mv k.toNat none }
section
variable {w w' : World} {F : Nat → Prop} {A : PA} {s : St}
theorem qyp (h : PAt w F A s) (k : Int) (hk2 : -9223372036854775808 ≤ k ∧ k ≤ 9223372036854775807) : Calls Tryz.prog 33 #[.pointer (some ⟨A.cl, 0, none⟩), .int .i64 k] w (qf5 w F A (.int .i64 (abE s k)) (abS s k)) := by
 by_cases hk : k < 0 ∨ 3 < k
 ·have HE : Hid (abE s k = 8 ∧ abS s k = s) := Lib.hid ⟨by unfold abE; rw [if_pos hk], by unfold abS; rw [if_pos hk]⟩
  have H := Lib.hid h
  rw [HE.out.1, HE.out.2]
  clear h
  go_enter Tryz.func33, Tryz.ntmps33
  go_wp2_with (go_at_call 60; refine (qka k hk hk2 A.cl).mono ?_; rintro e w' ⟨rfl, rfl⟩)
  go_ret
  exact .idle H.out (jo _ _)
 ·obtain ⟨n, rfl⟩ : ∃ n : Nat, k = n := ⟨k.toNat, by omega⟩
  have hn : n < 4 := by omega
  have hmi := ql6 h hn
  have hm := h.mv n hn
  have hv := (h.part n hn).v
  have hcs := h.cells (1 + n * 3 + 2) _ (qb1 A s n hn).2.2
  cases hmv : s.mv n with
  |none =>
   have HE : Hid (abE s (n : Int) = 11 ∧ abS s (n : Int) = s) := Lib.hid ⟨by unfold abE; rw [if_neg hk, Int.toNat_natCast, hmv], by unfold abS; rw [if_neg hk, Int.toNat_natCast, hmv]⟩
   have H := Lib.hid h
   rw [HE.out.1, HE.out.2]
   rw [hmv] at hmi
   clear h hm hv hcs hmv hk
   go_enter Tryz.func33, Tryz.ntmps33
   go_wp2_with (go_at_call 60; refine hmi.mono ?_; rintro e w' ⟨rfl, rfl⟩)
   go_ret
   exact .idle H.out (jo _ _)
  |some m =>
   rw [hmv] at hm hmi
   obtain ⟨x, z1, z2, z3, _⟩ := hm
   rw [z1] at hv
   replace hv : w.cell? ⟨A.cl, 1 + n * 3 + 2, none⟩ = some (.pointer (some ⟨x, 0, none⟩)) := hv
   have hf := hcs.2
   have hse : w.cell? ⟨x, 12, none⟩ = some (.bool m.sealed) := by simp [World.cell?, z3, j3]
   have HE : Hid (abE s (n : Int) = (if m.sealed then 12 else 0) ∧ abS s (n : Int) = if m.sealed then s else { s with mv := qo s.mv n none }) := Lib.hid ⟨by unfold abE; rw [if_neg hk, Int.toNat_natCast, hmv], by unfold abS; rw [if_neg hk, Int.toNat_natCast, hmv]⟩
   have H := Lib.hid h
   rw [HE.out.1, HE.out.2]
   clear h hcs hmv hk z1 z2 z3
   cases hs : m.sealed
   ·rw [hs] at hse
    rw [if_neg (by decide), if_neg (by decide)]
    clear hs
    go_enter Tryz.func33, Tryz.ntmps33
    go_wp2_with (go_at_call 60; refine hmi.mono ?_; rintro e w' ⟨rfl, rfl⟩)
    go_ret
    exact ⟨rfl, { A with mp := qo A.mp n none, cv := qo A.cv n (.slice none 0 0) }, rfl, (H.out.drop hn).1.mono fun _ h => .inl h, (H.out.drop hn).2⟩
   ·rw [hs] at hse
    rw [if_pos rfl, if_pos rfl]
    clear hs
    go_enter Tryz.func33, Tryz.ntmps33
    go_wp2_with (go_at_call 60; refine hmi.mono ?_; rintro e w' ⟨rfl, rfl⟩)
    go_ret
    exact .idle H.out (jo _ _)
end
end Go.Proofs.YtkpekiajdlolnabGreat.Ph
namespace Go.Proofs.YtkpekiajdlolnabGreat
open Go.RowKit Go.Maps
def bgM (s : St) (n to : Nat) : Mv := ⟨s.id + 1, s.ow n, to, s.kv n, [], [], 0, 0, 0, false⟩
def bgS (s : St) (n to : Nat) : St := { s with id := s.id + 1, mv := qo s.mv n (some (bgM s n to)) }
def mvE (s : St) (k to : Int) : Int := if k < 0 ∨ 3 < k then 8 else if to < 0 ∨ s.hosts ≤ to then 1 else if (s.mv k.toNat).isSome then 10 else if (s.ow k.toNat : Int) = to then 9 else 0
def mvS (s : St) (k to : Int) : St := if mvE s k to = 0 then bgS s k.toNat to.toNat else s
section
variable {w w' : World} {F : Nat → Prop} {A : PA} {s : St} {n : Nat}
def bgA (A : PA) (n g : Nat) (pv : Value) : PA := { A with mp := qo A.mp n (some g), pv := qo A.pv n pv, cv := qo A.cv n (.slice none 0 0), ld := qo A.ld n ⟨#[]⟩ }
theorem qcl.same {C : PA} {i : Nat} {m : Option Mv} (h : qcl w F A i m) (e1 : C.mp i = A.mp i) (e2 : C.pv i = A.pv i) (e3 : C.cv i = A.cv i) (e4 : C.ld i = A.ld i) : qcl w F C i m := by
 cases m with
 |none => exact ⟨e1.trans h.1, by rw [e3]; exact h.2⟩
 |some m =>
  obtain ⟨g, h1, h2, h3, h4, h5, h6, h7⟩ := h
  exact ⟨g, e1.trans h1, h2, by rw [e2, e3, e4]; exact h3, by rw [e2]; exact h4, by rw [e3]; exact h5, by rw [e2]; exact h6, by rw [e3]; exact h7⟩
theorem qcl.qx1 {i g : Nat} {m : Option Mv} (h : qcl w F A i m) (e : A.mp i = some g) : g < w.heap.size := by
 cases m with
 |none => rw [h.1] at e; cases e
 |some m =>
  obtain ⟨g', h1, h2, h3, _⟩ := h
  rw [h1] at e; cases e
  exact (zx h3).1
theorem qjt (A : PA) (s : St) (n to g : Nat) (pv : Value) : n < 4 → ((zy A s).setIfInBounds 14 (.int .i64 ((s.id + 1 : Nat) : Int))).setIfInBounds (1 + n * 3 + 2) (.pointer (some ⟨g, 0, none⟩)) = zy (bgA A n g pv) (bgS s n to) := by
 intro hn
 match n, hn with
 |0, _ | 1, _ | 2, _ | 3, _ => rfl
theorem PAt.begin {g to : Nat} {pv : Value} (h : PAt w F A s) (hn : n < 4) (hb : But (· = A.cl) w w') (hcl : w'.heap[A.cl]? = some (.cells (zy (bgA A n g pv) (bgS s n to)) 83 (0, 0)))
  (hg : w'.heap[g]? = some (.cells (j3 n pv (.slice none 0 0) ⟨#[]⟩ (bgM s n to)) 135 (0, 0))) (hlo : w.heap.size ≤ g) (hr : w'.ownsRow w.heap.size 74 2 pv (s.kv n).length (flat (s.kv n))) : PAt w' (fun b => F b ∨ w.heap.size ≤ b) (bgA A n g pv) (bgS s n to) := by
 refine h.turn (bgA A n g pv) (bgS s n to) hb hcl rfl rfl rfl rfl rfl rfl (fun i hi no => ?_) (fun _ h => .inl h) (fun i j q hi hj h1 h2 => ?_) (fun i j q hi hj h1 h2 => ?_)
 ·show qcl w' _ _ i (qo s.mv n _ i)
  by_cases e : i = n
  ·subst e
   rw [ja]
   have e1 : (bgA A i g pv).pv i = pv := ja ..
   have e2 : (bgA A i g pv).cv i = .slice none 0 0 := ja ..
   have e3 : (bgA A i g pv).ld i = ⟨#[]⟩ := ja ..
   refine ⟨g, ja .., .inr hlo, by rw [e1, e2, e3]; exact hg, ?_, ?_, fun b hb' => .inr ?_, fun b hb' => ?_⟩
   ·rw [e1]; exact ⟨hr.1, hr.2.imp id fun ⟨g, cap, cur, e, _, r⟩ => ⟨g, cap, cur, e, xzl _, r⟩⟩
   ·rw [e2]; exact World.ownsRow_nil _ _ _ _
   ·rw [e1] at hb'; exact (hr.lt b hb').1
   ·rw [e2] at hb'; cases hb'
  ·rw [qy _ _ e]
   exact (((h.mv i hi).keep (w' := w') (fun b c _ hb => no b c _ hb (by decide)) (fun b c _ hb => no b c _ hb (by decide)) (fun b c _ hb => no b c _ hb (by decide))).mono fun _ h => .inl h).same (qy _ _ e) (qy _ _ e) (qy _ _ e) (qy _ _ e)
 ·replace h1 : qo A.mp n (some g) i = some q := h1
  replace h2 : qo A.mp n (some g) j = some q := h2
  by_cases e1 : i = n
  ·by_cases e2 : j = n
   ·omega
   ·subst e1
    rw [ja] at h1; rw [qy _ _ e2] at h2
    cases h1
    have := (h.mv j hj).qx1 h2
    omega
  ·rw [qy _ _ e1] at h1
   by_cases e2 : j = n
   ·subst e2
    rw [ja] at h2
    cases h2
    have := (h.mv i hi).qx1 h1
    omega
   ·rw [qy _ _ e2] at h2
    exact h.mpi i j q hi hj h1 h2
 ·replace h1 : (qo A.cv n (.slice none 0 0) i).ownBlock = some q := h1
  replace h2 : (qo A.cv n (.slice none 0 0) j).ownBlock = some q := h2
  by_cases e1 : i = n
  ·subst e1; rw [ja] at h1; cases h1
  ·by_cases e2 : j = n
   ·subst e2; rw [ja] at h2; cases h2
   ·rw [qy _ _ e1] at h1
    rw [qy _ _ e2] at h2
    exact h.cvi i j q hi hj h1 h2
theorem qn1 (h : PAt w F A s) (hn : n < 4) {wA : World} (e : wA = w.setCell ⟨A.cl, 14, none⟩ (.int .i64 ((s.id + 1 : Nat) : Int))) :
  wA.cell? ⟨A.cl, 14, none⟩ = some (.int .i64 ((s.id + 1 : Nat) : Int)) ∧ wA.cell? ⟨A.cl, 1 + n * 3, none⟩ = some (.int .i64 (s.ow n)) ∧ wA.cell? ⟨A.cl, 1 + n * 3 + 1, none⟩ = some (.pointer (some ⟨A.db n, 0, none⟩)) ∧ wA.cell? ⟨A.cl, 1 + n * 3 + 2, none⟩ = some (ptr (A.mp n)) ∧ wA.frozen? ⟨A.cl, 1 + n * 3 + 2, none⟩ = false ∧ wA.cell? ⟨A.db n, 0, none⟩ = some (.map (some (A.mb n))) ∧ j4 wA (A.mb n) (s.kv n) ∧ wA.heap[A.cl]? = some (.cells ((zy A s).setIfInBounds 14 (.int .i64 ((s.id + 1 : Nat) : Int))) 83 (0, 0)) ∧ wA.heap.size = w.heap.size ∧ But (· = A.cl) w wA := by
 have hs := xhs w A.cl 14 _ _ (.int .i64 ((s.id + 1 : Nat) : Int)) h.cl.2
 have ho : ∀ b, b ≠ A.cl → wA.heap[b]? = w.heap[b]? := fun b hb => by rw [e]; exact xho w _ b _ hb
 have hd : A.db n ≠ A.cl := fun e2 => by
  have := (h.db n hn).2
  rw [e2, h.cl.2] at this
  have e3 := xoi this
  injection e3 with _ e4
  exact absurd e4 (by decide)
 have hm : A.mb n ≠ A.cl := fun e2 => qbm (h.mb n hn).2 h.cl.2 e2.symm
 rw [← e] at hs
 obtain ⟨p1, p2, p3⟩ := qb1 A s n hn
 refine ⟨by simp [World.cell?, hs, zy], ?_, ?_, ?_, by simp [World.frozen?, hs], by rw [xcb (ho _ hd)]; simp [World.cell?, (h.db n hn).2], (h.mb n hn).2.block (ho _ hm), hs, by rw [e]; simp, by rw [e]; exact But.setCell (B := (· = A.cl)) (But.refl _ _) rfl _ _⟩
 all_goals
  simp only [World.cell?, hs]
  rw [xne (by omega)]
 ·simp [p1]
 ·simp [p2, ptr]
 ·simp [p3]
theorem qti {wA w1 : World} {g : Nat} {id ow to : Int} {pv : Value} (hn : n < 4) (h8 : wA.heap[A.cl]? = some (.cells ((zy A s).setIfInBounds 14 (.int .i64 ((s.id + 1 : Nat) : Int))) 83 (0, 0))) (hb : Below wA.heap.size wA w1) (hlo : wA.heap.size ≤ g)
  (hg : w1.heap[g]? = some (.cells #[.int .i64 id, .int .i64 ow, .int .i64 to, pv, .slice none 0 0, .int .u8 0, .int .i64 0, .int .i64 0, .int .i64 0, .string ⟨#[]⟩, .string ⟨#[]⟩, .int .i64 0, .bool false] 135 (0, 0))) {w2 : World} (e : w2 = w1.setCell ⟨A.cl, 1 + n * 3 + 2, none⟩ (.pointer (some ⟨g, 0, none⟩))) :
  w2.cell? ⟨A.cl, 1 + n * 3 + 2, none⟩ = some (.pointer (some ⟨g, 0, none⟩)) ∧ w2.cell? ⟨A.cl, 14, none⟩ = some (.int .i64 ((s.id + 1 : Nat) : Int)) ∧ w2.cell? ⟨g, 5, none⟩ = some (.int .u8 0) ∧ w2.cell? ⟨g, 6, none⟩ = some (.int .i64 0) ∧ w2.cell? ⟨g, 7, none⟩ = some (.int .i64 0) ∧ w2.cell? ⟨g, 8, none⟩ = some (.int .i64 0) ∧ w2.cell? ⟨g, 9, none⟩ = some (.string ⟨#[]⟩) ∧ (∀ j, w2.frozen? ⟨g, j, none⟩ = false) ∧
   w2.heap[A.cl]? = some (.cells (((zy A s).setIfInBounds 14 (.int .i64 ((s.id + 1 : Nat) : Int))).setIfInBounds (1 + n * 3 + 2) (.pointer (some ⟨g, 0, none⟩))) 83 (0, 0)) ∧ w2.heap[g]? = w1.heap[g]? ∧ g ≠ A.cl := by
 have hlt := (zx h8).1
 have hne : g ≠ A.cl := by omega
 have h1 := (hb.block _ hlt).trans h8
 have hs := xhs w1 A.cl (1 + n * 3 + 2) _ _ (.pointer (some ⟨g, 0, none⟩)) h1
 have ho : w2.heap[g]? = w1.heap[g]? := by rw [e]; exact xho w1 _ g _ hne
 rw [← e] at hs
 have hg2 := ho.trans hg
 have hsz : (zy A s).size = 16 := rfl
 refine ⟨?_, ?_, by simp [World.cell?, hg2], by simp [World.cell?, hg2], by simp [World.cell?, hg2], by simp [World.cell?, hg2], by simp [World.cell?, hg2], fun j => by simp [World.frozen?, hg2], hs, ho, hne⟩
 ·simp only [World.cell?, hs]
  rw [xsl (by simp [hsz]; omega)]; rfl
 ·simp only [World.cell?, hs]
  rw [xne (by omega), xsl (by simp [hsz])]; rfl
theorem qth {wA w1 w2 w3 : World} {g to : Nat} {pv : Value} (h : PAt w F A s) (hn : n < 4) (hb0 : But (· = A.cl) w wA) (hz : wA.heap.size = w.heap.size) (hb : Below wA.heap.size wA w1) (hlo : wA.heap.size ≤ g)
  (hg : w1.heap[g]? = some (.cells #[.int .i64 ((s.id + 1 : Nat) : Int), .int .i64 (s.ow n), .int .i64 to, pv, .slice none 0 0, .int .u8 0, .int .i64 0, .int .i64 0, .int .i64 0, .string ⟨#[]⟩, .string ⟨#[]⟩, .int .i64 0, .bool false] 135 (0, 0)))
  (hr : w1.ownsRow wA.heap.size 74 2 pv (s.kv n).length (flat (s.kv n))) (e : w2 = w1.setCell ⟨A.cl, 1 + n * 3 + 2, none⟩ (.pointer (some ⟨g, 0, none⟩)))
  (hc : w2.heap[A.cl]? = some (.cells (((zy A s).setIfInBounds 14 (.int .i64 ((s.id + 1 : Nat) : Int))).setIfInBounds (1 + n * 3 + 2) (.pointer (some ⟨g, 0, none⟩))) 83 (0, 0))) (ho : w2.heap[g]? = w1.heap[g]?) (hne : g ≠ A.cl)
  (e3 : w3 = ((((w2.setCell ⟨g, 5, none⟩ (.int .u8 0)).setCell ⟨g, 6, none⟩ (.int .i64 n)).setCell ⟨g, 7, none⟩ (.int .i64 ((s.id : Int) + 1))).setCell ⟨g, 8, none⟩ (.int .i64 0)).setCell ⟨g, 9, none⟩ (.string ⟨#[]⟩)) :
  PAt w3 (fun b => F b ∨ w.heap.size ≤ b) (bgA A n g pv) (bgS s n to) ∧ But F w w3 := by
 have k1 := xhs w2 g 5 _ _ (.int .u8 0) (ho.trans hg)
 have k2 := xhs _ g 6 _ _ (.int .i64 n) k1
 have k3 := xhs _ g 7 _ _ (.int .i64 ((s.id : Int) + 1)) k2
 have k4 := xhs _ g 8 _ _ (.int .i64 0) k3
 have k5 := xhs _ g 9 _ _ (.string ⟨#[]⟩) k4
 have oth : ∀ b, b ≠ g → w3.heap[b]? = w2.heap[b]? := fun b hb => by
  rw [e3, xho _ _ _ _ hb, xho _ _ _ _ hb, xho _ _ _ _ hb, xho _ _ _ _ hb, xho _ _ _ _ hb]
 rw [← e3] at k5
 have qa8 : But (fun b => b = A.cl ∨ w.heap.size ≤ b) w w3 := by
  rw [e3, e]
  refine But.setCell (But.setCell (But.setCell (But.setCell (But.setCell (But.setCell ((hb0.mono fun b h => .inl h).trans (But.of_below (B := fun b => b = A.cl ∨ w.heap.size ≤ b) hb)) (.inl rfl) _ _) ?_ _ _) ?_ _ _) ?_ _ _) ?_ _ _) ?_ _ _
  all_goals exact .inr (by omega)
 have q30 : But (· = A.cl) w w3 := ⟨qa8.size, fun b hb hn => qa8.keep b hb fun x => x.elim hn fun y => by omega, qa8.os, qa8.output⟩
 have hrow : w3.ownsRow w.heap.size 74 2 pv (s.kv n).length (flat (s.kv n)) := by
  rw [hz] at hr
  refine qj hr fun q hq => ?_
  have hqg : q ≠ g := fun x => by
   obtain ⟨c, hcc⟩ := jq hr hq
   rw [x, hg] at hcc
   have e2 := xoi hcc
   injection e2 with _ e4
   exact absurd e4 (by decide)
  have hqc : q ≠ A.cl := fun x => by
   have := (hr.lt q hq).1
   have := h.clt
   omega
  rw [oth q hqg, e]
  exact xho _ _ _ _ hqc
 refine ⟨h.begin hn q30 ?_ (k5.trans rfl) (by omega) hrow, q30.mono fun b e => e ▸ h.cl.1⟩
 rw [oth A.cl fun x => hne x.symm, hc, qjt A s n to g pv hn]
end
end Go.Proofs.YtkpekiajdlolnabGreat
namespace Go.Proofs.YtkpekiajdlolnabGreat.Ph
open Go.Conc Go.ConcN Go.RowKit Go.Maps Go.Conc.Lib Go Sim
section
variable {w w' : World} {F : Nat → Prop} {A : PA} {s : St} {n : Nat}
theorem qyt (h : PAt w F A s) (hn : n < 4) (hri : zi (s.kv n)) (hL : (s.kv n).length ≤ 12) (hks : ∀ p ∈ s.kv n, p.1.length ≤ maxLen) (to : Nat) (hid : s.id ≤ 4611686018427387904) :
  Calls Tryz.prog 58 #[.pointer (some ⟨A.cl, 0, none⟩), .pointer (some ⟨A.cl, 1 + n * 3, none⟩), .int .i64 n, .int .i64 to] w (qf5 w F A (.tuple #[]) (bgS s n to)) := by
 have c14 : w.cell? ⟨A.cl, 14, none⟩ = some (.int .i64 s.id) := (h.cells 14 _ rfl).1
 have f14 := (h.cells 14 (.int .i64 s.id) rfl).2
 have H := Lib.hid h
 have HR := Lib.hid (And.intro hri (And.intro hL hks))
 have hid2 : ((s.id : Int) + 1 ≤ 9223372036854775807) := by omega
 clear h hri hL hks
 go_enter Tryz.func58, Tryz.ntmps58
 go_wp2
 have hwA : w.setCell ⟨A.cl, 14, none⟩ (.int .i64 ((s.id : Int) + 1)) = w.setCell ⟨A.cl, 14, none⟩ (.int .i64 ((s.id + 1 : Nat) : Int)) := rfl
 obtain ⟨a1, a2, a3, a4, a5, a6, a7, a8, a9, a10⟩ := qn1 H.out hn hwA
 have HWA := Lib.hid (And.intro a8 (And.intro a9 a10))
 generalize w.setCell ⟨A.cl, 14, none⟩ (.int .i64 ((s.id : Int) + 1)) = wA at *
 clear hwA a8 a9 a10 c14 f14
 change Code.wp _ (Code.region 1 bg1 true) _ _ _
 refine q8x (cl := A.cl) (n := n) (db := A.db n) (mb := A.mb n) (id := s.id + 1) (ow := s.ow n) (to := to) (L := s.kv n) rfl rfl rfl rfl rfl a1 a2 a3 ⟨_, a4⟩ a5 a6 a7 HR.out.1 HR.out.2.1 HR.out.2.2 fun y w1 g sa c hy hb1 hlo hg hr => ?_
 have y0 : y 0 = .pointer (some ⟨A.cl, 0, none⟩) := hy 0 (qcy (by kernel_rfl))
 have y1 : y 1 = .pointer (some ⟨A.cl, 1 + n * 3, none⟩) := hy 1 (qcy (by kernel_rfl))
 have y2 : y 2 = .int .i64 n := hy 2 (qcy (by kernel_rfl))
 rw [jap, y0, y1, y2]
 obtain ⟨w2, hw2⟩ : ∃ w2, w1.setCell ⟨A.cl, 1 + n * 3 + 2, none⟩ (.pointer (some ⟨g, 0, none⟩)) = w2 := ⟨_, rfl⟩
 rw [hw2]
 obtain ⟨d1, d2, d5, d6, d7, d8, d9, fr, z1, z2, z3⟩ := qti hn HWA.out.1 hb1 hlo hg hw2.symm
 have HE := Lib.hid (fun w3 => qth (w3 := w3) H.out hn HWA.out.2.2 HWA.out.2.1 hb1 hlo hg hr hw2.symm z1 z2 z3)
 clear z1 z2 z3
 clear hy y0 y1 y2 a1 a2 a3 a4 a5 a6 a7 hb1 hlo hg hr hw2
 go_wp2
 refine wp_region_still_tail 12 (by kernel_rfl) (by kernel_rfl) ?_
 change wpStill _ _ w2.drew (fun a' => wpList _ _ _ _ a' w2.drew) _ _
 simp only [List.take_succ_cons, List.take_zero, List.drop_succ_cons, List.drop_zero]
 repeat still_step
 refine wpStill_nil ?_
 go_wp2
 go_end0
 have HF := Lib.hid (HE.out _ rfl)
 exact ⟨rfl, bgA A n g _, rfl, HF.out.1.below (Below.drew (jo _ _)), HF.out.2.drew⟩
theorem qi4 {k to : Int} (hk : k < 0 ∨ 3 < k) : mvE s k to = 8 ∧ mvS s k to = s := by
 have h : mvE s k to = 8 := by unfold mvE; rw [if_pos hk]
 exact ⟨h, by unfold mvS; rw [h]; rfl⟩
theorem qg9 {k to : Int} (hk : ¬ (k < 0 ∨ 3 < k)) (ht : to < 0 ∨ s.hosts ≤ to) : mvE s k to = 1 ∧ mvS s k to = s := by
 have h : mvE s k to = 1 := by unfold mvE; rw [if_neg hk, if_pos ht]
 exact ⟨h, by unfold mvS; rw [h]; rfl⟩
theorem qg7 {to : Int} (hn : n < 4) (ht : ¬ (to < 0 ∨ s.hosts ≤ to)) {m : Mv} (hm : s.mv n = some m) : mvE s n to = 10 ∧ mvS s n to = s := by
 have h : mvE s n to = 10 := by unfold mvE; rw [if_neg (by omega), if_neg ht, Int.toNat_natCast, hm]; rfl
 exact ⟨h, by unfold mvS; rw [h]; rfl⟩
theorem qg8 {to : Int} (hn : n < 4) (ht : ¬ (to < 0 ∨ s.hosts ≤ to)) (hm : s.mv n = none) (ho : (s.ow n : Int) = to) : mvE s n to = 9 ∧ mvS s n to = s := by
 have h : mvE s n to = 9 := by unfold mvE; rw [if_neg (by omega), if_neg ht, Int.toNat_natCast, hm, if_neg (by decide), if_pos ho]
 exact ⟨h, by unfold mvS; rw [h]; rfl⟩
theorem qna {to : Nat} (hn : n < 4) (ht : to < s.hosts) (hm : s.mv n = none) (ho : s.ow n ≠ to) : mvE s n to = 0 ∧ mvS s n to = bgS s n to := by
 have h : mvE s n to = 0 := by unfold mvE; rw [if_neg (by omega), if_neg (by omega), Int.toNat_natCast, hm, if_neg (by decide), if_neg (by omega)]
 exact ⟨h, by unfold mvS; rw [h, if_pos rfl]; rfl⟩
theorem q19 (h : PAt w F A s) (hri : ∀ i, i < 4 → zi (s.kv i)) (hL : ∀ i, i < 4 → (s.kv i).length ≤ 12) (hks : ∀ i, i < 4 → ∀ p ∈ s.kv i, p.1.length ≤ maxLen) (hid : s.id ≤ 4611686018427387904) (k to : Int) (hk2 : -9223372036854775808 ≤ k ∧ k ≤ 9223372036854775807) (ht2 : -9223372036854775808 ≤ to ∧ to ≤ 9223372036854775807) :
  Calls Tryz.prog 31 #[.pointer (some ⟨A.cl, 0, none⟩), .int .i64 k, .int .i64 to] w (qf5 w F A (.int .i64 (mvE s k to)) (mvS s k to)) := by
 by_cases hk : k < 0 ∨ 3 < k
 ·rw [(qi4 hk).1, (qi4 hk).2]
  have H := Lib.hid h
  clear h hri hL hks hid
  rcases Int.lt_or_le k 0 with h2 | h2
  ·have g1 : decide (k < 0) = true := xdt h2
   go_enter Tryz.func31, Tryz.ntmps31
   go_wp2
   go_ret
   exact .idle H.out (jo _ _)
  ·have g1 : decide (k < 0) = false := xdf (by omega)
   have g2 : decide (4 ≤ k) = true := xdt (by omega)
   go_enter Tryz.func31, Tryz.ntmps31
   go_wp2
   go_ret
   exact .idle H.out (jo _ _)
 have c0 : w.cell? ⟨A.cl, 0, none⟩ = some (.int .i64 s.hosts) := (h.cells 0 _ rfl).1
 obtain ⟨n, rfl⟩ : ∃ n : Nat, k = n := ⟨k.toNat, by omega⟩
 have hn : n < 4 := by omega
 have hn3 : ((n : Int) < 4) := by omega
 have g1 : decide ((n : Int) < 0) = false := xdf (by omega)
 have g2 : decide ((4 : Int) ≤ n) = false := xdf (by omega)
 by_cases ht : to < 0 ∨ s.hosts ≤ to
 ·rw [(qg9 hk ht).1, (qg9 hk ht).2]
  have H := Lib.hid h
  clear h hri hL hks hid
  rcases Int.lt_or_le to 0 with h2 | h2
  ·have g3 : decide (to < 0) = true := xdt h2
   go_enter Tryz.func31, Tryz.ntmps31
   go_wp2
   go_ret
   exact .idle H.out (jo _ _)
  ·have g3 : decide (to < 0) = false := xdf (by omega)
   have g4 : decide ((s.hosts : Int) ≤ to) = true := xdt (by omega)
   go_enter Tryz.func31, Tryz.ntmps31
   go_wp2
   go_ret
   exact .idle H.out (jo _ _)
 obtain ⟨to, rfl⟩ : ∃ q : Nat, to = q := ⟨to.toNat, by omega⟩
 have g3 : decide ((to : Int) < 0) = false := xdf (by omega)
 have g4 : decide (s.hosts ≤ to) = false := xdf (by omega)
 have cO := (h.cells (1 + n * 3) _ (qb1 A s n hn).1).1
 have cV := (h.part n hn).v
 have hm := h.mv n hn
 cases hmv : s.mv n with
 |some m =>
  rw [(qg7 hn ht hmv).1, (qg7 hn ht hmv).2]
  rw [hmv] at hm
  obtain ⟨x, z1, _⟩ := hm
  rw [z1] at cV
  replace cV : w.cell? ⟨A.cl, 1 + n * 3 + 2, none⟩ = some (.pointer (some ⟨x, 0, none⟩)) := cV
  have H := Lib.hid h
  clear h hri hL hks hid z1 hmv hk ht
  go_enter Tryz.func31, Tryz.ntmps31
  go_wp2
  go_ret
  exact .idle H.out (jo _ _)
 |none =>
  rw [hmv] at hm
  rw [hm.1] at cV
  replace cV : w.cell? ⟨A.cl, 1 + n * 3 + 2, none⟩ = some (.pointer none) := cV
  by_cases ho : s.ow n = to
  ·rw [(qg8 hn ht hmv (by omega)).1, (qg8 hn ht hmv (by omega)).2]
   have H := Lib.hid h
   rw [ho] at cO
   clear h hri hL hks hid hm hmv hk ht ho
   go_enter Tryz.func31, Tryz.ntmps31
   go_wp2
   go_ret
   exact .idle H.out (jo _ _)
  ·have g5 : (s.ow n == to) = false := by simpa using ho
   have hb := qyt h hn (hri n hn) (hL n hn) (hks n hn) to hid
   rw [(qna hn (by omega) hmv ho).1, (qna hn (by omega) hmv ho).2]
   have HB := Lib.hid hb
   clear h hri hL hks hid hm hmv hk ht ho hb
   go_enter Tryz.func31, Tryz.ntmps31
   go_wp2_with (go_at_call 58; refine HB.out.mono ?_; rintro e w' ⟨rfl, h2⟩; have H2 := Lib.hid h2; clear h2)
   go_ret
   exact ⟨rfl, H2.out⟩
end
end Go.Proofs.YtkpekiajdlolnabGreat.Ph
namespace Go.Proofs.YtkpekiajdlolnabGreat
open Go.RowKit Go.Maps
section
variable {w w' : World} {G : Nat → Prop} {B : MA} {s : St} {n : Nat}
def bgB (B : MA) (n g : Nat) (pv : Value) : MA := { B with mp := qo B.mp n (some g), pv := qo B.pv n pv, cv := qo B.cv n (.slice none 0 0) }
theorem qao.qx1 {i g : Nat} {m : Option Mv} (h : qao w G B i m) (e : B.mp i = some g) : g < w.heap.size := by
 cases m with
 |none => rw [h.1] at e; cases e
 |some m =>
  obtain ⟨g', h1, h2, h3, _⟩ := h
  rw [h1] at e; cases e
  exact (zx h3).1
theorem qmw (h : MAt w G B s) (hn : n < 4) {wA : World} (e : wA = w.setCell ⟨B.ml, 3, none⟩ (.int .i64 ((s.id + 1 : Nat) : Int))) :
  wA.cell? ⟨B.ml, 3, none⟩ = some (.int .i64 ((s.id + 1 : Nat) : Int)) ∧ wA.cell? ⟨B.ml, 1, none⟩ = some (.slice (some ⟨B.sb, 0, none⟩) 4 B.cap) ∧ wA.cell? ⟨B.sb, n * 3, none⟩ = some (.int .i64 (s.ow n)) ∧ wA.cell? ⟨B.sb, n * 3 + 1, none⟩ = some (B.lv n) ∧ wA.cell? ⟨B.sb, n * 3 + 2, none⟩ = some (.pointer (mpA (B.mp n))) ∧ wA.frozen? ⟨B.sb, n * 3 + 2, none⟩ = false ∧ yh wA 0 (B.lv n) (s.kv n) ∧
   wA.heap[B.ml]? = some (.cells ((qen B s).setIfInBounds 3 (.int .i64 ((s.id + 1 : Nat) : Int))) 101 (0, 0)) ∧ (∀ b, b ≠ B.ml → wA.heap[b]? = w.heap[b]?) ∧ wA.heap.size = w.heap.size ∧ But (· = B.ml) w wA ∧ B.sb ≠ B.ml := by
 have hs := xhs w B.ml 3 _ _ (.int .i64 ((s.id + 1 : Nat) : Int)) h.ml.2
 have ho : ∀ b, b ≠ B.ml → wA.heap[b]? = w.heap[b]? := fun b hb => by rw [e]; exact xho w _ b _ hb
 obtain ⟨cur, k1, _⟩ := h.sb.2
 have hd : B.sb ≠ B.ml := fun e2 => by
  have h2 := h.ml.2
  rw [← e2, k1] at h2
  have e3 := xoi h2
  injection e3 with _ e4
  exact absurd e4 (by decide)
 rw [← e] at hs
 obtain ⟨p1, p2, p3, p4⟩ := h.sbc hn
 have hsb := ho B.sb hd
 refine ⟨by simp [World.cell?, hs, qen], by simp [World.cell?, hs, qen], (xcb hsb).trans p1, (xcb hsb).trans p2, (xcb hsb).trans p3, (World.frozen?_of_block hsb).trans (p4 _), (h.r n hn).1.block fun g hg => ho g fun x => ?_, hs, ho, by rw [e]; simp, by rw [e]; exact But.setCell (B := (· = B.ml)) (But.refl _ _) rfl _ _, hd⟩
 obtain ⟨c, hc⟩ := (h.r n hn).1.ty hg
 rw [x, h.ml.2] at hc
 have e3 := xoi hc
 injection e3 with _ e4
 exact absurd e4 (by decide)
theorem MAt.begin {wA w1 w3 : World} {g to : Nat} {pv : Value} (h : MAt w G B s) (hn : n < 4) (h8 : wA.heap[B.ml]? = some (.cells ((qen B s).setIfInBounds 3 (.int .i64 ((s.id + 1 : Nat) : Int))) 101 (0, 0))) (ho : ∀ b, b ≠ B.ml → wA.heap[b]? = w.heap[b]?) (hz : wA.heap.size = w.heap.size) (hb0 : But (· = B.ml) w wA) (hd : B.sb ≠ B.ml) (hb : Below wA.heap.size wA w1) (hlo : wA.heap.size ≤ g)
  (hg : w1.heap[g]? = some (.cells #[.int .i64 ((s.id + 1 : Nat) : Int), .int .i64 (s.ow n), .int .i64 to, pv, .slice none 0 0, .string ⟨#[]⟩, .int .i64 0, .int .i64 0, .int .i64 0, .bool false] 110 (0, 0)))
  (hr : w1.ownsRow wA.heap.size 74 2 pv (s.kv n).length (flat (s.kv n))) (e : w3 = w1.setCell ⟨B.sb, n * 3 + 2, none⟩ (.pointer (some ⟨g, 0, none⟩))) :
  MAt w3 (fun b => G b ∨ w.heap.size ≤ b) (bgB B n g pv) (bgS s n to) ∧ But G w w3 := by
 obtain ⟨cur, k1, k2⟩ := h.sb.2
 have lt : ∀ {b : Nat} {o : Obj}, w.heap[b]? = some o → b < w.heap.size := fun hb => (zx hb).1
 have hls := lt k1
 have hlm := lt h.ml.2
 have old : ∀ b, b < w.heap.size → b ≠ B.sb → b ≠ B.ml → w3.heap[b]? = w.heap[b]? := fun b hb1 h1 h2 => by
  rw [e, xho _ _ _ _ h1]
  exact (hb.block b (by omega)).trans (ho b h2)
 have hml3 : w3.heap[B.ml]? = some (.cells (qen (bgB B n g pv) (bgS s n to)) 101 (0, 0)) := by
  rw [e, xho _ _ _ _ fun x => hd x.symm]
  exact (hb.block _ (by omega)).trans h8
 have hsb1 : w1.heap[B.sb]? = some (.cells cur 104 (0, 0)) := ((hb.block _ (by omega)).trans (ho _ hd)).trans k1
 have hs := xhs w1 B.sb (n * 3 + 2) _ _ (.pointer (some ⟨g, 0, none⟩)) hsb1
 rw [← e] at hs
 have fresh : ∀ b, wA.heap.size ≤ b → w3.heap[b]? = w1.heap[b]? := fun b hbb => by
  rw [e, xho _ _ _ _ fun x => by rw [show b = B.sb from x] at hbb; omega]
 have noT : ∀ (b : Nat) (c : Array Value) (ty : TypeId), w.heap[b]? = some (Obj.cells c ty (0, 0)) → ty ≠ 104 → ty ≠ 101 → w3.heap[b]? = w.heap[b]? := fun b c ty hbb n1 n2 => by
  refine old b (lt hbb) (fun x => ?_) fun x => ?_
  ·rw [x, k1] at hbb
   have e2 := xoi hbb
   injection e2 with _ e3
   exact n1 e3.symm
  ·rw [x, h.ml.2] at hbb
   have e2 := xoi hbb
   injection e2 with _ e3
   exact n2 e3.symm
 refine ⟨⟨⟨.inl h.ml.1, hml3⟩, ⟨.inl h.sb.1, _, hs, fun i hi => ?_⟩, fun i hi => ⟨(h.r i hi).1.block fun q hq => ?_, fun b hb => .inl ((h.r i hi).2 b hb)⟩, fun i hi => ?_, fun i j q hi hj h1 h2 => ?_, fun i j q hi hj h1 h2 => ?_, h.stg⟩, ?_⟩
 ·obtain ⟨h3, h4, h5⟩ := k2 i hi
  have hsz : i * 3 + 2 < cur.size := (zx h5).1
  refine ⟨by rw [xne (by omega)]; exact h3, by rw [xne (by omega)]; exact h4, ?_⟩
  show _ = some (Value.pointer (mpA (qo B.mp n (some g) i)))
  by_cases e1 : i = n
  ·subst e1
   rw [ja, xsl hsz]; rfl
  ·rw [qy _ _ e1, xne (by omega)]; exact h5
 ·obtain ⟨c, hc⟩ := (h.r i hi).1.ty hq
  exact noT q c _ hc (by decide) (by decide)
 ·show qao w3 _ _ i (qo s.mv n _ i)
  by_cases e1 : i = n
  ·subst e1
   rw [ja]
   have e1 : (bgB B i g pv).pv i = pv := ja ..
   have e2 : (bgB B i g pv).cv i = .slice none 0 0 := ja ..
   refine ⟨g, ja .., .inr (by omega), by rw [e1, e2, fresh g hlo]; exact hg, ?_, ?_, fun b hb' => .inr ?_, fun b hb' => ?_⟩
   ·rw [e1]
    have hr3 := qj hr fun q hq => fresh q (hr.lt q hq).1
    exact ⟨hr3.1, hr3.2.imp id fun ⟨g, cap, cur, e, _, r⟩ => ⟨g, cap, cur, e, xzl _, r⟩⟩
   ·rw [e2]; exact World.ownsRow_nil _ _ _ _
   ·rw [e1] at hb'; have := (hr.lt b hb').1; omega
   ·rw [e2] at hb'; cases hb'
  ·rw [qy _ _ e1]
   exact (((h.mv i hi).keep (w' := w3) (fun b c _ hb => noT b c _ hb (by decide) (by decide)) (fun b c _ hb => noT b c _ hb (by decide) (by decide)) (fun b c _ hb => noT b c _ hb (by decide) (by decide))).mono fun _ h => .inl h).same (qy _ _ e1) (qy _ _ e1) (qy _ _ e1)
 ·replace h1 : qo B.mp n (some g) i = some q := h1
  replace h2 : qo B.mp n (some g) j = some q := h2
  by_cases e1 : i = n
  ·by_cases e2 : j = n
   ·omega
   ·subst e1
    rw [ja] at h1; rw [qy _ _ e2] at h2
    cases h1
    have := (h.mv j hj).qx1 h2
    omega
  ·rw [qy _ _ e1] at h1
   by_cases e2 : j = n
   ·subst e2
    rw [ja] at h2
    cases h2
    have := (h.mv i hi).qx1 h1
    omega
   ·rw [qy _ _ e2] at h2
    exact h.mpi i j q hi hj h1 h2
 ·replace h1 : (qo B.cv n (.slice none 0 0) i).ownBlock = some q := h1
  replace h2 : (qo B.cv n (.slice none 0 0) j).ownBlock = some q := h2
  by_cases e1 : i = n
  ·subst e1; rw [ja] at h1; cases h1
  ·by_cases e2 : j = n
   ·subst e2; rw [ja] at h2; cases h2
   ·rw [qy _ _ e1] at h1
    rw [qy _ _ e2] at h2
    exact h.cvi i j q hi hj h1 h2
 ·rw [e]
  exact But.setCell ((hb0.mono fun b e => e ▸ h.ml.1).trans (But.of_below hb)) h.sb.1 _ _
theorem MAt.drop (h : MAt w G B s) (hn : n < 4) : MAt (w.setCell ⟨B.sb, n * 3 + 2, none⟩ (.pointer none)) G { B with mp := qo B.mp n none, cv := qo B.cv n (.slice none 0 0) } { s with mv := qo s.mv n none } ∧ But G w (w.setCell ⟨B.sb, n * 3 + 2, none⟩ (.pointer none)) := by
 obtain ⟨cur, k1, k2⟩ := h.sb.2
 have hs := xhs w B.sb (n * 3 + 2) cur 104 (.pointer none) k1
 have no : ∀ (b : Nat) (c : Array Value) (ty : TypeId), w.heap[b]? = some (Obj.cells c ty (0, 0)) → ty ≠ 104 → (w.setCell ⟨B.sb, n * 3 + 2, none⟩ (.pointer none)).heap[b]? = w.heap[b]? := fun b c ty hbb n1 => xho w _ b _ fun e => by
  rw [show b = B.sb from e, k1] at hbb
  have e2 := xoi hbb
  injection e2 with _ e3
  exact n1 e3.symm
 refine ⟨⟨⟨h.ml.1, (no _ _ _ h.ml.2 (by decide)).trans h.ml.2⟩, ⟨h.sb.1, _, hs, fun i hi => ?_⟩, fun i hi => ⟨(h.r i hi).1.block fun q hq => ?_, (h.r i hi).2⟩, fun i hi => ?_, fun i j q hi hj h1 h2 => ?_, fun i j q hi hj h1 h2 => ?_, h.stg⟩, But.setCell (But.refl _ _) h.sb.1 _ _⟩
 ·obtain ⟨h3, h4, h5⟩ := k2 i hi
  have hsz : i * 3 + 2 < cur.size := (zx h5).1
  refine ⟨by rw [xne (by omega)]; exact h3, by rw [xne (by omega)]; exact h4, ?_⟩
  show _ = some (Value.pointer (mpA (qo B.mp n none i)))
  by_cases e1 : i = n
  ·subst e1
   rw [ja, xsl hsz]; rfl
  ·rw [qy _ _ e1, xne (by omega)]; exact h5
 ·obtain ⟨c, hc⟩ := (h.r i hi).1.ty hq
  exact no q c _ hc (by decide)
 ·show qao _ _ _ i (qo s.mv n none i)
  by_cases e1 : i = n
  ·subst e1
   rw [ja]
   exact ⟨ja .., by show (qo B.cv i (.slice none 0 0) i).ownBlock = none; rw [ja]; rfl⟩
  ·rw [qy _ _ e1]
   exact ((h.mv i hi).keep (fun b c _ hb => no b c _ hb (by decide)) (fun b c _ hb => no b c _ hb (by decide)) (fun b c _ hb => no b c _ hb (by decide))).same (qy _ _ e1) rfl (qy _ _ e1)
 ·replace h1 : qo B.mp n none i = some q := h1
  replace h2 : qo B.mp n none j = some q := h2
  by_cases e1 : i = n
  ·subst e1; rw [ja] at h1; cases h1
  ·by_cases e2 : j = n
   ·subst e2; rw [ja] at h2; cases h2
   ·rw [qy _ _ e1] at h1
    rw [qy _ _ e2] at h2
    exact h.mpi i j q hi hj h1 h2
 ·replace h1 : (qo B.cv n (.slice none 0 0) i).ownBlock = some q := h1
  replace h2 : (qo B.cv n (.slice none 0 0) j).ownBlock = some q := h2
  by_cases e1 : i = n
  ·subst e1; rw [ja] at h1; cases h1
  ·by_cases e2 : j = n
   ·subst e2; rw [ja] at h2; cases h2
   ·rw [qy _ _ e1] at h1
    rw [qy _ _ e2] at h2
    exact h.cvi i j q hi hj h1 h2
end
end Go.Proofs.YtkpekiajdlolnabGreat
namespace Go.Proofs.YtkpekiajdlolnabGreat.Ph
open Go.Conc Go.ConcN Go.RowKit Go.Maps Go.Conc.Lib Go Sim
section
variable {w w' : World} {G : Nat → Prop} {B : MA} {s : St} {n : Nat}
theorem qwe (h : MAt w G B s) (hn : n < 4) (hL : (s.kv n).length ≤ 12) (to : Nat) (hid : s.id ≤ 4611686018427387904) :
  Calls Tryz.prog 59 #[.pointer (some ⟨B.ml, 0, none⟩), .int .i64 n, .int .i64 to] w (qdt w G B (.tuple #[]) (bgS s n to)) := by
 have c3 : w.cell? ⟨B.ml, 3, none⟩ = some (.int .i64 s.id) := (h.cells 3 _ rfl).1
 have f3 := (h.cells 3 (.int .i64 s.id) rfl).2
 have H := Lib.hid h
 have HL := Lib.hid hL
 have hid2 : ((s.id : Int) + 1 ≤ 9223372036854775807) := by omega
 clear h hL
 go_enter Tryz.func59, Tryz.ntmps59
 go_wp2
 have hwA : w.setCell ⟨B.ml, 3, none⟩ (.int .i64 ((s.id : Int) + 1)) = w.setCell ⟨B.ml, 3, none⟩ (.int .i64 ((s.id + 1 : Nat) : Int)) := rfl
 obtain ⟨a1, a2, a3, a4, a5, a6, a7, a8, a9, a10, a11, a12⟩ := qmw H.out hn hwA
 obtain ⟨sl, cp, hv⟩ := qb0 a7
 rw [hv] at a4 a7
 generalize w.setCell ⟨B.ml, 3, none⟩ (.int .i64 ((s.id : Int) + 1)) = wA at *
 clear hwA c3 f3
 change Code.wp _ (Code.region 1 eg1 true) _ _ _
 refine q81 (ml := B.ml) (sb := B.sb) (n := n) (cap := B.cap) (id := s.id + 1) (ow := s.ow n) (to := to) (cp := cp) (sa := sl) (L := s.kv n) rfl rfl rfl rfl rfl hn a1 a2 a3 a4 ⟨_, a5⟩ a6 a7 (by have := HL.out; omega) fun y w1 g sa c hy hb1 hlo hg hr => ?_
 have HF := Lib.hid (H.out.begin hn a8 a9 a10 a11 a12 hb1 hlo hg hr rfl)
 rw [jao]
 clear hy hb1 hlo hg hr a1 a2 a3 a4 a5 a6 a7 a8 a9 a10 a11 a12
 go_wp2
 go_end0
 exact ⟨rfl, bgB B n g _, rfl, HF.out.1, HF.out.2⟩
theorem q04 (h : MAt w G B s) (hL : ∀ i, i < 4 → (s.kv i).length ≤ 12) (hid : s.id ≤ 4611686018427387904) (k to : Int) (hk2 : -9223372036854775808 ≤ k ∧ k ≤ 9223372036854775807) (ht2 : -9223372036854775808 ≤ to ∧ to ≤ 9223372036854775807) :
  Calls Tryz.prog 32 #[.pointer (some ⟨B.ml, 0, none⟩), .int .i64 k, .int .i64 to] w (qdt w G B (.int .i64 (mvE s k to)) (mvS s k to)) := by
 by_cases hk : k < 0 ∨ 3 < k
 ·rw [(qi4 hk).1, (qi4 hk).2]
  have H := Lib.hid h
  clear h hL hid
  rcases Int.lt_or_le k 0 with h2 | h2
  ·have g1 : decide (k < 0) = true := xdt h2
   go_enter Tryz.func32, Tryz.ntmps32
   go_wp2
   go_ret
   exact .idle H.out (jo _ _)
  ·have g1 : decide (k < 0) = false := xdf (by omega)
   have g2 : decide (3 < k) = true := xdt (by omega)
   go_enter Tryz.func32, Tryz.ntmps32
   go_wp2
   go_ret
   exact .idle H.out (jo _ _)
 have c0 : w.cell? ⟨B.ml, 0, none⟩ = some (.int .i64 s.hosts) := (h.cells 0 _ rfl).1
 have c1 : w.cell? ⟨B.ml, 1, none⟩ = some (.slice (some ⟨B.sb, 0, none⟩) 4 B.cap) := (h.cells 1 _ rfl).1
 obtain ⟨n, rfl⟩ : ∃ n : Nat, k = n := ⟨k.toNat, by omega⟩
 have hn : n < 4 := by omega
 have hn3 : ((n : Int) < 4) := by omega
 have g1 : decide ((n : Int) < 0) = false := xdf (by omega)
 have g2 : decide ((3 : Int) < n) = false := xdf (by omega)
 by_cases ht : to < 0 ∨ s.hosts ≤ to
 ·rw [(qg9 hk ht).1, (qg9 hk ht).2]
  have H := Lib.hid h
  clear h hL hid
  rcases Int.lt_or_le to 0 with h2 | h2
  ·have g3 : decide (to < 0) = true := xdt h2
   go_enter Tryz.func32, Tryz.ntmps32
   go_wp2
   go_ret
   exact .idle H.out (jo _ _)
  ·have g3 : decide (to < 0) = false := xdf (by omega)
   have g4 : decide ((s.hosts : Int) ≤ to) = true := xdt (by omega)
   go_enter Tryz.func32, Tryz.ntmps32
   go_wp2
   go_ret
   exact .idle H.out (jo _ _)
 obtain ⟨to, rfl⟩ : ∃ q : Nat, to = q := ⟨to.toNat, by omega⟩
 have g3 : decide ((to : Int) < 0) = false := xdf (by omega)
 have g4 : decide (s.hosts ≤ to) = false := xdf (by omega)
 obtain ⟨cO, _, cV, _⟩ := h.sbc hn
 have hm := h.mv n hn
 cases hmv : s.mv n with
 |some m =>
  rw [(qg7 hn ht hmv).1, (qg7 hn ht hmv).2]
  rw [hmv] at hm
  obtain ⟨x, z1, _⟩ := hm
  rw [z1] at cV
  replace cV : w.cell? ⟨B.sb, n * 3 + 2, none⟩ = some (.pointer (some ⟨x, 0, none⟩)) := cV
  have H := Lib.hid h
  clear h hL hid z1 hmv hk ht
  go_enter Tryz.func32, Tryz.ntmps32
  go_wp2
  go_ret
  exact .idle H.out (jo _ _)
 |none =>
  rw [hmv] at hm
  rw [hm.1] at cV
  replace cV : w.cell? ⟨B.sb, n * 3 + 2, none⟩ = some (.pointer none) := cV
  by_cases ho : s.ow n = to
  ·rw [(qg8 hn ht hmv (by omega)).1, (qg8 hn ht hmv (by omega)).2]
   have H := Lib.hid h
   rw [ho] at cO
   clear h hL hid hm hmv hk ht ho
   go_enter Tryz.func32, Tryz.ntmps32
   go_wp2
   go_ret
   exact .idle H.out (jo _ _)
  ·have g5 : (s.ow n == to) = false := by simpa using ho
   have hb := qwe h hn (hL n hn) to hid
   rw [(qna hn (by omega) hmv ho).1, (qna hn (by omega) hmv ho).2]
   have HB := Lib.hid hb
   clear h hL hid hm hmv hk ht ho hb
   go_enter Tryz.func32, Tryz.ntmps32
   go_wp2_with (go_at_call 59; refine HB.out.mono ?_; rintro e w' ⟨rfl, h2⟩; have H2 := Lib.hid h2; clear h2)
   go_ret
   exact ⟨rfl, H2.out⟩
theorem qwd (h : MAt w G B s) (k : Int) (hk2 : -9223372036854775808 ≤ k ∧ k ≤ 9223372036854775807) : Calls Tryz.prog 34 #[.pointer (some ⟨B.ml, 0, none⟩), .int .i64 k] w (qdt w G B (.int .i64 (abE s k)) (abS s k)) := by
 have c1 : w.cell? ⟨B.ml, 1, none⟩ = some (.slice (some ⟨B.sb, 0, none⟩) 4 B.cap) := (h.cells 1 _ rfl).1
 by_cases hk : k < 0 ∨ 3 < k
 ·have HE : Hid (abE s k = 8 ∧ abS s k = s) := Lib.hid ⟨by unfold abE; rw [if_pos hk], by unfold abS; rw [if_pos hk]⟩
  have H := Lib.hid h
  rw [HE.out.1, HE.out.2]
  clear h
  rcases Int.lt_or_le k 0 with h2 | h2
  ·have g1 : decide (k < 0) = true := xdt h2
   go_enter Tryz.func34, Tryz.ntmps34
   go_wp2
   go_ret
   exact .idle H.out (jo _ _)
  ·have g1 : decide (k < 0) = false := xdf (by omega)
   have g2 : decide (3 < k) = true := xdt (by omega)
   go_enter Tryz.func34, Tryz.ntmps34
   go_wp2
   go_ret
   exact .idle H.out (jo _ _)
 ·obtain ⟨n, rfl⟩ : ∃ n : Nat, k = n := ⟨k.toNat, by omega⟩
  have hn : n < 4 := by omega
  have hn3 : ((n : Int) < 4) := by omega
  have g1 : decide ((n : Int) < 0) = false := xdf (by omega)
  have g2 : decide ((3 : Int) < n) = false := xdf (by omega)
  have hm := h.mv n hn
  obtain ⟨_, _, cV, fV⟩ := h.sbc hn
  replace fV := fV (n * 3 + 2)
  cases hmv : s.mv n with
  |none =>
   have HE : Hid (abE s (n : Int) = 11 ∧ abS s (n : Int) = s) := Lib.hid ⟨by unfold abE; rw [if_neg hk, Int.toNat_natCast, hmv], by unfold abS; rw [if_neg hk, Int.toNat_natCast, hmv]⟩
   have H := Lib.hid h
   rw [HE.out.1, HE.out.2]
   rw [hmv] at hm
   rw [hm.1] at cV
   replace cV : w.cell? ⟨B.sb, n * 3 + 2, none⟩ = some (.pointer none) := cV
   clear h hm hmv hk
   go_enter Tryz.func34, Tryz.ntmps34
   go_wp2
   go_ret
   exact .idle H.out (jo _ _)
  |some m =>
   rw [hmv] at hm
   obtain ⟨x, z1, z2, z3, _⟩ := hm
   rw [z1] at cV
   replace cV : w.cell? ⟨B.sb, n * 3 + 2, none⟩ = some (.pointer (some ⟨x, 0, none⟩)) := cV
   have hse : w.cell? ⟨x, 9, none⟩ = some (.bool m.sealed) := by simp [World.cell?, z3, j5]
   have HE : Hid (abE s (n : Int) = (if m.sealed then 12 else 0) ∧ abS s (n : Int) = if m.sealed then s else { s with mv := qo s.mv n none }) := Lib.hid ⟨by unfold abE; rw [if_neg hk, Int.toNat_natCast, hmv], by unfold abS; rw [if_neg hk, Int.toNat_natCast, hmv]⟩
   have H := Lib.hid h
   rw [HE.out.1, HE.out.2]
   clear h hmv hk z1 z2 z3
   cases hs : m.sealed
   ·rw [hs] at hse
    rw [if_neg (by decide), if_neg (by decide)]
    clear hs
    go_enter Tryz.func34, Tryz.ntmps34
    go_wp2
    go_ret
    exact ⟨rfl, { B with mp := qo B.mp n none, cv := qo B.cv n (.slice none 0 0) }, rfl, (H.out.drop hn).1.mono fun _ h => .inl h, (H.out.drop hn).2⟩
   ·rw [hs] at hse
    rw [if_pos rfl, if_pos rfl]
    clear hs
    go_enter Tryz.func34, Tryz.ntmps34
    go_wp2
    go_ret
    exact .idle H.out (jo _ _)
end
theorem jam (y : Nat → Value) : lay 41 y = #[y 0, y 1, y 2, y 3, y 4, y 5, y 6, y 7, y 8, y 9, y 10, y 11, y 12, y 13, y 14, y 15, y 16, y 17, y 18, y 19, y 20, y 21, y 22, y 23, y 24, y 25, y 26, y 27, y 28, y 29, y 30, y 31, y 32, y 33, y 34, y 35, y 36, y 37, y 38, y 39, y 40] := rfl
theorem jan (y : Nat → Value) : lay 42 y = #[y 0, y 1, y 2, y 3, y 4, y 5, y 6, y 7, y 8, y 9, y 10, y 11, y 12, y 13, y 14, y 15, y 16, y 17, y 18, y 19, y 20, y 21, y 22, y 23, y 24, y 25, y 26, y 27, y 28, y 29, y 30, y 31, y 32, y 33, y 34, y 35, y 36, y 37, y 38, y 39, y 40, y 41] := rfl
def frB (kd sh id n : Nat) (ld : ByteArray) : ByteArray := ⟨(Fr.bytes ⟨kd, sh, id, n, ld.data.toList⟩).toArray⟩
def frX (kd sh id n : Nat) (ld : ByteArray) : ByteArray := (⟨#[b8 kd, b8 sh]⟩ : ByteArray) ++ ⟨(qae id).toArray⟩ ++ ⟨(qae n).toArray⟩ ++ ⟨(qc7 ld.data.toList).toArray⟩
theorem qoh (kd sh id n : Nat) (ld : ByteArray) : (frX kd sh id n ld).data.toList = Fr.body ⟨kd, sh, id, n, ld.data.toList⟩ := by
 simp [frX, Fr.body]
theorem ql1 (kd sh id n : Nat) (ld : ByteArray) : frX kd sh id n ld ++ (⟨(le4 (chk (frX kd sh id n ld).data.toList)).toArray⟩ : ByteArray) = frB kd sh id n ld := by
 have h : (frX kd sh id n ld ++ (⟨(le4 (chk (frX kd sh id n ld).data.toList)).toArray⟩ : ByteArray)).data.toList = (frB kd sh id n ld).data.toList := by
  simp only [ByteArray.data_append, Array.toList_append, qoh, frB, Fr.bytes, List.toList_toArray]
 have h2 : ∀ a b : ByteArray, a.data.toList = b.data.toList → a = b := fun a b e => by
  cases a; cases b
  simp only [ByteArray.mk.injEq]
  exact Array.toList_inj.1 e
 exact h2 _ _ h
theorem qbo {n : Nat} (h : n < 9223372036854775808) : (qae n).length ≤ 9 := qd2 8 n (by omega)
theorem qoi {kd sh id n : Nat} {ld : ByteArray} (h1 : id < 9223372036854775808) (h2 : n < 9223372036854775808) (h3 : ld.size ≤ 1048576) : (frX kd sh id n ld).size ≤ 2097152 := by
 have a1 := qbo h1
 have a2 := qbo h2
 have a3 := qbo (n := ld.data.toList.length) (by simp; omega)
 have e : (frX kd sh id n ld).size = (frX kd sh id n ld).data.toList.length := by simp
 rw [e, qoh]
 simp only [Fr.body, List.length_append, List.length_cons, List.length_nil, qc7]
 have : ld.data.toList.length = ld.size := by simp
 omega
theorem qoz {C : Nat} (w : World) : (convert 139 9 (.slice (some ⟨w.heap.size, 0, none⟩) 4 4)).run Tryz.prog (w.alloc (.cells #[.int .u8 ((C : Int) % 256), .int .u8 ((C : Int) / 256 % 256), .int .u8 ((C : Int) / 65536 % 256), .int .u8 ((C : Int) / 16777216 % 256)] 5)) = .ok (.string ⟨#[b8 C, b8 (C / 256), b8 (C / 65536), b8 (C / 16777216)]⟩) (w.alloc (.cells #[.int .u8 ((C : Int) % 256), .int .u8 ((C : Int) / 256 % 256), .int .u8 ((C : Int) / 65536 % 256), .int .u8 ((C : Int) / 16777216 % 256)] 5)) :=
 q8y _ _ ((C : Int) % 256) ((C : Int) / 256 % 256) ((C : Int) / 65536 % 256) ((C : Int) / 16777216 % 256) _ _ _ _ (by simp [b8]) (by simp [b8]) (by simp [b8]) (by simp [b8]) (by go_simp) (by go_simp) (by go_simp) (by go_simp)
theorem qyu {w : World} (kd sh id n : Nat) (ld : ByteArray) (hkd : kd < 256) (hsh : sh < 256) (hid : id < 9223372036854775808) (hn : n < 9223372036854775808) (hld : ld.size ≤ 1048576) :
  Calls Tryz.prog 75 #[.agg #[.int .u8 kd, .int .i64 sh, .int .i64 id, .int .i64 n, .string ld]] w fun e w' => e = .returned (.string (frB kd sh id n ld)) ∧ Below w.heap.size w w' := by
 have HX := Lib.hid (qoi (kd := kd) (sh := sh) hid hn hld)
 have HB := Lib.hid (ql1 kd sh id n ld)
 have H1 := Lib.hid (And.intro hkd (And.intro hsh (And.intro hid (And.intro hn hld))))
 have l3 : (qc7 ld.data.toList).length ≤ 1048585 := by
  have a3 := qbo (n := ld.data.toList.length) (by simp; omega)
  have : ld.data.toList.length = ld.size := by simp
  simp only [qc7, List.length_append]
  omega
 have HL := Lib.hid l3
 clear hkd hsh hid hn hld l3
 go_enter Tryz.func75, Tryz.ntmps75
 go_wp2
 change Code.wp _ (Code.region 1 pb1 true) _ _ _
 refine jbh (bx := w.heap.size) (kd := kd) (sh := sh) (id := id) (n := n) (ld := ld) (s1 := ⟨(qae id).toArray⟩) (s2 := ⟨(qae n).toArray⟩) (s3 := ⟨(qc7 ld.data.toList).toArray⟩) rfl rfl rfl (by go_simp) (by go_simp) (by go_simp) (by go_simp) (by go_simp) H1.out.1 H1.out.2.1 rfl (by simpa [ByteArray.size] using qbo H1.out.2.2.1) (by simpa [ByteArray.size] using qbo H1.out.2.2.2.1) (by simpa [ByteArray.size] using HL.out) (fun W => qx5 id H1.out.2.2.1) (fun W => qx5 n H1.out.2.2.2.1) (fun W => q7b ld (by have := H1.out.2.2.2.2; omega)) ?_
 intro y w1 _ y3 hb1
 rw [jam]
 replace y3 : y 3 = .string (frX kd sh id n ld) := y3
 rw [y3]
 have HB1 := Lib.hid (((jo w.heap.size w).alloc (jy _) _).trans (hb1.mono (by simp)))
 clear hb1 y3
 obtain ⟨X, hX⟩ : ∃ X, frX kd sh id n ld = X := ⟨_, rfl⟩
 rw [hX] at HB HX
 rw [hX]
 clear hX
 have HC := Lib.hid (qwc X.data.toList)
 go_wp2_with (go_at_call 117; refine (q0t X (by have := HX.out; omega)).mono ?_; rintro e w2 ⟨rfl, rfl⟩; generalize chk X.data.toList = C at *; have hcv := qoz (C := C) w2; have hsz := HX.out)
 go_ret
 exact ⟨by rw [← HB.out]; rfl, HB1.out.trans ((jo _ _).alloc HB1.out.size _)⟩
theorem qky {C : Nat} (h : C < 2 ^ 32) (d : Nat) (hd : 0 < d) : wrap64 ((C : Int) / (d : Int)) = (C : Int) / (d : Int) := by
 have e : (C : Int) / (d : Int) = ((C / d : Nat) : Int) := by rw [Int.natCast_ediv]
 have hq : C / d < 2 ^ 32 := Nat.lt_of_le_of_lt (Nat.div_le_self _ _) h
 rw [e]
 generalize C / d = q at *
 unfold wrap64
 omega
theorem qwf {w : World} (kd sh id n : Nat) (ld : ByteArray) (hkd : kd < 256) (hsh : sh < 256) (hid : id < 9223372036854775808) (hn : n < 9223372036854775808) (hld : ld.size ≤ 1048576) :
  Calls Tryz.prog 100 #[.agg #[.int .i64 kd, .int .i64 sh, .int .i64 id, .int .i64 n, .string ld]] w fun e w' => e = .returned (.string (frB kd sh id n ld)) ∧ Below w.heap.size w w' := by
 have HX := Lib.hid (qoi (kd := kd) (sh := sh) hid hn hld)
 have HB := Lib.hid (ql1 kd sh id n ld)
 have H1 := Lib.hid (And.intro hkd (And.intro hsh (And.intro hid (And.intro hn hld))))
 have l3 : (qc7 ld.data.toList).length ≤ 1048585 := by
  have a3 := qbo (n := ld.data.toList.length) (by simp; omega)
  have : ld.data.toList.length = ld.size := by simp
  simp only [qc7, List.length_append]
  omega
 have HL := Lib.hid l3
 clear hkd hsh hid hn hld l3
 go_enter Tryz.func100, Tryz.ntmps100
 go_wp2
 change Code.wp _ (Code.region 1 db1 true) _ _ _
 refine q8z (bx := w.heap.size) (kd := kd) (sh := sh) (id := id) (n := n) (ld := ld) (s1 := ⟨(qae id).toArray⟩) (s2 := ⟨(qae n).toArray⟩) (s3 := ⟨(qc7 ld.data.toList).toArray⟩) rfl rfl rfl (by go_simp) (by go_simp) (by go_simp) (by go_simp) (by go_simp) H1.out.1 H1.out.2.1 rfl (by simpa [ByteArray.size] using qbo H1.out.2.2.1) (by simpa [ByteArray.size] using qbo H1.out.2.2.2.1) (by simpa [ByteArray.size] using HL.out) (fun W => qrh id W H1.out.2.2.1) (fun W => qrh n W H1.out.2.2.2.1) (fun W => q2j ld (by have := H1.out.2.2.2.2; omega)) ?_
 intro y w1 _ y3 hb1
 rw [jan]
 replace y3 : y 3 = .string (frX kd sh id n ld) := y3
 rw [y3]
 have HB1 := Lib.hid (((jo w.heap.size w).alloc (jy _) _).trans (hb1.mono (by simp)))
 clear hb1 y3
 obtain ⟨X, hX⟩ : ∃ X, frX kd sh id n ld = X := ⟨_, rfl⟩
 rw [hX] at HB HX
 rw [hX]
 clear hX
 have HC := Lib.hid (qwc X.data.toList)
 go_wp2_with (go_at_call 126; refine (qyz X (by have := HX.out; omega)).mono ?_; rintro e w2 ⟨rfl, rfl⟩; generalize chk X.data.toList = C at *; have hcv := qoz (C := C) w2; have hsz := HX.out; have v1 : wrap64 ((C : Int) / 256) = (C : Int) / 256 := qky HC.out 256 (by decide); have v2 : wrap64 ((C : Int) / 65536) = (C : Int) / 65536 := qky HC.out 65536 (by decide); have v3 : wrap64 ((C : Int) / 16777216) = (C : Int) / 16777216 := qky HC.out 16777216 (by decide))
 go_ret
 exact ⟨by rw [← HB.out]; rfl, HB1.out.trans ((jo _ _).alloc HB1.out.size _)⟩
end Go.Proofs.YtkpekiajdlolnabGreat.Ph
namespace Go.Proofs.YtkpekiajdlolnabGreat
open Go.RowKit Go.Maps
def nxM (n : Nat) (m : Mv) : Mv := { m with kind := 1, sent := (Ph.frB 1 n m.id 0 ⟨#[]⟩).data.toList }
def nxV (s : St) (k : Int) : Bs := if k < 0 ∨ 3 < k then [] else match s.mv k.toNat with
 |none => []
 |some m => if m.sent.isEmpty then (nxM k.toNat m).sent else m.sent
def nxE (s : St) (k : Int) : Int := if k < 0 ∨ 3 < k then 8 else match s.mv k.toNat with
 |none => 11
 |some _ => 0
def nxS (s : St) (k : Int) : St := if k < 0 ∨ 3 < k then s else match s.mv k.toNat with
 |none => s
 |some m => if m.sent.isEmpty then { s with mv := qo s.mv k.toNat (some (nxM k.toNat m)) } else s
section
variable {w w' : World} {F : Nat → Prop} {A : PA} {s : St} {n x : Nat}
theorem qh3 {k : Int} (hk : k < 0 ∨ 3 < k) : nxV s k = [] ∧ nxE s k = 8 ∧ nxS s k = s := ⟨by unfold nxV; rw [if_pos hk], by unfold nxE; rw [if_pos hk], by unfold nxS; rw [if_pos hk]⟩
theorem qfs (hn : n < 4) (hm : s.mv n = none) : nxV s n = [] ∧ nxE s n = 11 ∧ nxS s n = s := ⟨by unfold nxV; rw [if_neg (by omega), Int.toNat_natCast, hm], by unfold nxE; rw [if_neg (by omega), Int.toNat_natCast, hm], by unfold nxS; rw [if_neg (by omega), Int.toNat_natCast, hm]⟩
theorem qd3 (hn : n < 4) {m : Mv} (hm : s.mv n = some m) (h : m.sent.isEmpty = false) : nxV s n = m.sent ∧ nxE s n = 0 ∧ nxS s n = s := ⟨by unfold nxV; rw [if_neg (by omega), Int.toNat_natCast, hm]; simp [h], by unfold nxE; rw [if_neg (by omega), Int.toNat_natCast, hm], by unfold nxS; rw [if_neg (by omega), Int.toNat_natCast, hm]; simp [h]⟩
theorem qx6 (hn : n < 4) {m : Mv} (hm : s.mv n = some m) (h : m.sent.isEmpty = true) : nxV s n = (nxM n m).sent ∧ nxE s n = 0 ∧ nxS s n = { s with mv := qo s.mv n (some (nxM n m)) } := ⟨by unfold nxV; rw [if_neg (by omega), Int.toNat_natCast, hm]; simp [h], by unfold nxE; rw [if_neg (by omega), Int.toNat_natCast, hm], by unfold nxS; rw [if_neg (by omega), Int.toNat_natCast, hm]; simp [h]⟩
theorem qlo {a b : Array Value} {t u : TypeId} {p q : Nat × Nat} (h : some (Obj.cells a t p) = some (Obj.cells b u q)) : t = u := by
 have e := xoi h
 injection e
theorem PAt.mvb {m m' : Mv} {ld' : ByteArray} (h : PAt w F A s) (hn : n < 4) (hmv : s.mv n = some m) (hmp : A.mp n = some x) (hb : But (· = x) w w') (hx : w'.heap[x]? = some (.cells (j3 n (A.pv n) (A.cv n) ld' m') 135 (0, 0))) (e1 : m'.ps = m.ps) (e2 : m'.cs = m.cs) :
  PAt w' F { A with ld := qo A.ld n ld' } { s with mv := qo s.mv n (some m') } := by
 have h0 := h.mv n hn
 rw [hmv] at h0
 obtain ⟨g, z1, z2, z3, z4, z5, z6, z7⟩ := h0
 rw [hmp] at z1
 cases z1
 have lt : ∀ {b : Nat} {o : Obj}, w.heap[b]? = some o → b < w.heap.size := fun hb => (zx hb).1
 have noT : ∀ (b : Nat) (c : Array Value) (ty : TypeId), w.heap[b]? = some (Obj.cells c ty (0, 0)) → ty ≠ 135 → w'.heap[b]? = w.heap[b]? := fun b c ty hbb n1 => hb.keep b (lt hbb) fun e => by
  rw [e, z3] at hbb
  exact n1 (qlo hbb).symm
 have noM : ∀ b, (∃ es ck, w.heap[b]? = some (Obj.map es ck)) → w'.heap[b]? = w.heap[b]? := fun b ⟨es, ck, hbb⟩ => hb.keep b (lt hbb) fun e => by
  rw [e, z3] at hbb; cases hbb
 refine ⟨⟨h.cl.1, (noT _ _ _ h.cl.2 (by decide)).trans h.cl.2⟩, fun i hi => ⟨(h.db i hi).1, (noT _ _ _ (h.db i hi).2 (by decide)).trans (h.db i hi).2⟩, fun i hi => ⟨(h.mb i hi).1, ?_⟩, h.mbi, fun i hi => ?_, h.mpi, h.cvi, ⟨h.stg.1, h.stg.2.1, (noM _ ⟨_, _, h.stg.2.2⟩).trans h.stg.2.2⟩, h.smb⟩
 ·obtain ⟨es, ck, hbb, _⟩ := (h.mb i hi).2
  exact (h.mb i hi).2.block (noM _ ⟨es, ck, hbb⟩)
 ·show qcl w' F _ i (qo s.mv n _ i)
  by_cases e : i = n
  ·subst e
   rw [ja]
   refine ⟨x, hmp, z2, ?_, ?_, ?_, z6, z7⟩
   ·rw [hx]
    show _ = some (Obj.cells (j3 i (A.pv i) (A.cv i) (qo A.ld i ld' i) m') _ _)
    rw [ja]
   ·rw [e1]; exact z4.block fun b hb => by
     obtain ⟨c, hc⟩ := jq z4 hb
     exact noT b c _ hc (by decide)
   ·rw [e2]; exact z5.block fun b hb => by
     obtain ⟨c, hc⟩ := jq z5 hb
     exact noT b c _ hc (by decide)
  ·rw [qy _ _ e]
   exact ((h.mv i hi).keep (fun b c hmi hbb => hb.keep b (lt hbb) fun e2 => e (h.mpi i n b hi hn hmi (by rw [hmp, e2]))) (fun b c _ hb => noT b c _ hb (by decide)) (fun b c _ hb => noT b c _ hb (by decide))).same rfl rfl rfl (qy _ _ e)
end
end Go.Proofs.YtkpekiajdlolnabGreat
namespace Go.Proofs.YtkpekiajdlolnabGreat.Ph
open Go.Conc Go.ConcN Go.RowKit Go.Maps Go.Conc.Lib Go Sim
section
variable {w w' : World} {F : Nat → Prop} {A : PA} {s : St} {n x : Nat}
structure NxW (w0 : World) (x n : Nat) (pv cv : Value) (m : Mv) (w : World) : Prop where
 b : w.heap[x]? = some (.cells (j3 n pv cv ⟨#[]⟩ { m with kind := 1 }) 135 (0, 0))
 but : But (· = x) w0 w
theorem NxW.below {w0 : World} {pv cv : Value} {m : Mv} (h : NxW w0 x n pv cv m w) (hb : Below w.heap.size w w') : NxW w0 x n pv cv m w' := ⟨(hb.block _ (zx h.b).1).trans h.b, h.but.trans (But.of_below hb)⟩
theorem NxW.of {pv cv : Value} {ld : ByteArray} {m : Mv} (h : w.heap[x]? = some (.cells (j3 n pv cv ld m) 135 (0, 0))) : NxW w x n pv cv m ((w.setCell ⟨x, 5, none⟩ (.int .u8 1)).setCell ⟨x, 9, none⟩ (.string ⟨#[]⟩)) := by
 have k1 := xhs w x 5 _ _ (.int .u8 1) h
 have k2 := xhs _ x 9 _ _ (.string ⟨#[]⟩) k1
 exact ⟨k2.trans rfl, But.setCell (B := (· = x)) (But.setCell (B := (· = x)) (But.refl _ _) rfl _ _) rfl _ _⟩
theorem NxW.cells {w0 : World} {pv cv : Value} {m : Mv} (h : NxW w0 x n pv cv m w) {sb : ByteArray} (hs : sb.data.toList = m.sent) : w.cell? ⟨x, 10, none⟩ = some (.string sb) ∧ w.frozen? ⟨x, 10, none⟩ = false := by
 rw [← qex hs]
 exact ⟨by simp [World.cell?, h.b, j3], by simp [World.frozen?, h.b]⟩
theorem NxW.done {w0 : World} {m : Mv} (h : NxW w0 x n (A.pv n) (A.cv n) m w) (hp : PAt w0 F A s) (hn : n < 4) (hmv : s.mv n = some m) (hmp : A.mp n = some x) (hF : F x) :
  PAt (w.setCell ⟨x, 10, none⟩ (.string (frB 1 n m.id 0 ⟨#[]⟩))) F { A with ld := qo A.ld n ⟨#[]⟩ } { s with mv := qo s.mv n (some (nxM n m)) } ∧ But F w0 (w.setCell ⟨x, 10, none⟩ (.string (frB 1 n m.id 0 ⟨#[]⟩))) := by
 have k := xhs w x 10 _ _ (.string (frB 1 n m.id 0 ⟨#[]⟩)) h.b
 have hb := But.setCell (B := (· = x)) h.but rfl 10 (.string (frB 1 n m.id 0 ⟨#[]⟩))
 refine ⟨hp.mvb hn hmv hmp hb ?_ rfl rfl, hb.mono fun b e => e ▸ hF⟩
 rw [k]
 have e : sv (nxM n m).sent = .string (frB 1 n m.id 0 ⟨#[]⟩) := qks _
 unfold j3
 rw [e]
 rfl
theorem q2a (h : PAt w F A s) (hm0 : ∀ i, i < 4 → ∀ m, s.mv i = some m → m.n = 0 ∧ m.id < 9223372036854775808) (k : Int) (hk2 : -9223372036854775808 ≤ k ∧ k ≤ 9223372036854775807) :
  Calls Tryz.prog 46 #[.pointer (some ⟨A.cl, 0, none⟩), .int .i64 k] w (qf5 w F A (.tuple #[sv (nxV s k), .int .i64 (nxE s k)]) (nxS s k)) := by
 by_cases hk : k < 0 ∨ 3 < k
 ·rw [(qh3 hk).1, (qh3 hk).2.1, (qh3 hk).2.2]
  have H := Lib.hid h
  clear h hm0
  go_enter Tryz.func46, Tryz.ntmps46
  go_wp2_with (go_at_call 60; refine (qka k hk hk2 A.cl).mono ?_; rintro e w' ⟨rfl, rfl⟩)
  go_ret2
  exact .idle H.out (jo _ _)
 obtain ⟨n, rfl⟩ : ∃ n : Nat, k = n := ⟨k.toNat, by omega⟩
 have hn : n < 4 := by omega
 have hmi := ql6 h hn
 have hm := h.mv n hn
 have cV := (h.part n hn).v
 cases hmv : s.mv n with
 |none =>
  rw [(qfs hn hmv).1, (qfs hn hmv).2.1, (qfs hn hmv).2.2]
  have H := Lib.hid h
  rw [hmv] at hmi
  clear h hm hmv hk cV hm0
  go_enter Tryz.func46, Tryz.ntmps46
  go_wp2_with (go_at_call 60; refine hmi.mono ?_; rintro e w' ⟨rfl, rfl⟩)
  go_ret2
  exact .idle H.out (jo _ _)
 |some m =>
  rw [hmv] at hm hmi
  obtain ⟨x, z1, z2, z3, _⟩ := hm
  rw [z1] at cV
  replace cV : w.cell? ⟨A.cl, 1 + n * 3 + 2, none⟩ = some (.pointer (some ⟨x, 0, none⟩)) := cV
  obtain ⟨sb, hsb⟩ : ∃ b : ByteArray, b.data.toList = m.sent := ⟨⟨m.sent.toArray⟩, by simp⟩
  have c10 : w.cell? ⟨x, 10, none⟩ = some (.string sb) := by rw [← qex hsb]; simp [World.cell?, z3, j3]
  have hem : sb.toList.isEmpty = m.sent.isEmpty := by rw [ByteArray.toList_eq, hsb]
  cases hse : m.sent.isEmpty
  ·rw [(qd3 hn hmv hse).1, (qd3 hn hmv hse).2.1, (qd3 hn hmv hse).2.2, qex hsb]
   rw [hse] at hem
   have H := Lib.hid h
   clear h hmv hk hm0 z1 z2 z3 hse hsb
   go_enter Tryz.func46, Tryz.ntmps46
   go_wp2_with (go_at_call 60; refine hmi.mono ?_; rintro e w' ⟨rfl, rfl⟩)
   go_ret2
   exact .idle H.out (jo _ _)
  ·obtain ⟨h0, hid⟩ := hm0 n hn m hmv
   have c8 : w.cell? ⟨x, 8, none⟩ = some (.int .i64 0) := by simp [World.cell?, z3, j3, h0]
   have c5 : w.cell? ⟨x, 5, none⟩ = some (.int .u8 m.kind) := by simp [World.cell?, z3, j3]
   have c6 : w.cell? ⟨x, 6, none⟩ = some (.int .i64 n) := by simp [World.cell?, z3, j3]
   have c7 : w.cell? ⟨x, 7, none⟩ = some (.int .i64 m.id) := by simp [World.cell?, z3, j3]
   have c9 : w.cell? ⟨x, 9, none⟩ = some (.string (A.ld n)) := by simp [World.cell?, z3, j3]
   have fr : ∀ j, w.frozen? ⟨x, j, none⟩ = false := fun j => by simp [World.frozen?, z3]
   rw [hse] at hem
   have HE := Lib.hid (qx6 hn hmv hse)
   have H := Lib.hid h
   have HX := Lib.hid (And.intro z1 (And.intro z2 z3))
   have HMV := Lib.hid hmv
   have H0 := Lib.hid h0
   have HI := Lib.hid hid
   have HS := Lib.hid hsb
   have HN := Lib.hid (NxW.of z3)
   rw [HE.out.1, HE.out.2.1, HE.out.2.2, show sv (nxM n m).sent = .string (frB 1 n m.id 0 ⟨#[]⟩) from qks _]
   clear h hmv hk hm0 z1 z2 z3 hse hsb h0 hid
   go_enter Tryz.func46, Tryz.ntmps46
   go_wp2_with (first
    |(go_at_call 60; refine hmi.mono ?_; rintro e w' ⟨rfl, rfl⟩)
    |(go_at_call 75; refine (qyu 1 n m.id 0 ⟨#[]⟩ (by decide) (by omega) HI.out (by decide) (by decide)).mono ?_; rintro e w2 ⟨rfl, hb2⟩; have HN2 := Lib.hid (HN.out.below hb2); obtain ⟨d10, f10⟩ := HN2.out.cells HS.out; clear hb2))
   go_ret2
   have HD := Lib.hid (HN2.out.done H.out hn HMV.out HX.out.1 HX.out.2.1)
   exact ⟨rfl, { A with ld := qo A.ld n ⟨#[]⟩ }, rfl, HD.out.1.mono fun _ h => .inl h, HD.out.2⟩
end
end Go.Proofs.YtkpekiajdlolnabGreat.Ph
namespace Go.Proofs.YtkpekiajdlolnabGreat
open Go.RowKit Go.Maps
section
variable {w w' : World} {G : Nat → Prop} {B : MA} {s : St} {n x : Nat}
theorem MAt.mvb {m m' : Mv} (h : MAt w G B s) (hn : n < 4) (hmv : s.mv n = some m) (hmp : B.mp n = some x) (hb : But (· = x) w w') (hx : w'.heap[x]? = some (.cells (j5 (B.pv n) (B.cv n) m') 110 (0, 0))) (e1 : m'.ps = m.ps) (e2 : m'.cs = m.cs) :
  MAt w' G B { s with mv := qo s.mv n (some m') } := by
 have h0 := h.mv n hn
 rw [hmv] at h0
 obtain ⟨g, z1, z2, z3, z4, z5, z6, z7⟩ := h0
 rw [hmp] at z1
 cases z1
 have lt : ∀ {b : Nat} {o : Obj}, w.heap[b]? = some o → b < w.heap.size := fun hb => (zx hb).1
 have noT : ∀ (b : Nat) (c : Array Value) (ty : TypeId), w.heap[b]? = some (Obj.cells c ty (0, 0)) → ty ≠ 110 → w'.heap[b]? = w.heap[b]? := fun b c ty hbb n1 => hb.keep b (lt hbb) fun e => by
  rw [e, z3] at hbb
  exact n1 (qlo hbb).symm
 obtain ⟨cur, k1, k2⟩ := h.sb.2
 refine ⟨⟨h.ml.1, (noT _ _ _ h.ml.2 (by decide)).trans h.ml.2⟩, ⟨h.sb.1, cur, (noT _ _ _ k1 (by decide)).trans k1, k2⟩, fun i hi => ⟨(h.r i hi).1.block fun q hq => ?_, (h.r i hi).2⟩, fun i hi => ?_, h.mpi, h.cvi, h.stg⟩
 ·obtain ⟨c, hc⟩ := (h.r i hi).1.ty hq
  exact noT q c _ hc (by decide)
 ·show qao w' G _ i (qo s.mv n _ i)
  by_cases e : i = n
  ·subst e
   rw [ja]
   refine ⟨x, hmp, z2, hx, ?_, ?_, z6, z7⟩
   ·rw [e1]; exact z4.block fun b hb => by
     obtain ⟨c, hc⟩ := jq z4 hb
     exact noT b c _ hc (by decide)
   ·rw [e2]; exact z5.block fun b hb => by
     obtain ⟨c, hc⟩ := jq z5 hb
     exact noT b c _ hc (by decide)
  ·rw [qy _ _ e]
   exact (h.mv i hi).keep (fun b c hmi hbb => hb.keep b (lt hbb) fun e2 => e (h.mpi i n b hi hn hmi (by rw [hmp, e2]))) (fun b c _ hb => noT b c _ hb (by decide)) (fun b c _ hb => noT b c _ hb (by decide))
end
end Go.Proofs.YtkpekiajdlolnabGreat
namespace Go.Proofs.YtkpekiajdlolnabGreat.Ph
open Go.Conc Go.ConcN Go.RowKit Go.Maps Go.Conc.Lib Go Sim
section
variable {w w' : World} {G : Nat → Prop} {B : MA} {s : St} {n x : Nat}
structure NdW (w0 : World) (x : Nat) (pv cv : Value) (m : Mv) (w : World) : Prop where
 b : w.heap[x]? = some (.cells (j5 pv cv { m with kind := 1 }) 110 (0, 0))
 but : But (· = x) w0 w
theorem NdW.below {w0 : World} {pv cv : Value} {m : Mv} (h : NdW w0 x pv cv m w) (hb : Below w.heap.size w w') : NdW w0 x pv cv m w' := ⟨(hb.block _ (zx h.b).1).trans h.b, h.but.trans (But.of_below hb)⟩
theorem NdW.of {pv cv : Value} {m : Mv} (h : w.heap[x]? = some (.cells (j5 pv cv m) 110 (0, 0))) : NdW w x pv cv m (w.setCell ⟨x, 7, none⟩ (.int .i64 1)) := by
 have k1 := xhs w x 7 _ _ (.int .i64 1) h
 exact ⟨k1.trans rfl, But.setCell (B := (· = x)) (But.refl _ _) rfl _ _⟩
theorem NdW.cells {w0 : World} {pv cv : Value} {m : Mv} (h : NdW w0 x pv cv m w) {sb : ByteArray} (hs : sb.data.toList = m.sent) : w.cell? ⟨x, 5, none⟩ = some (.string sb) ∧ w.frozen? ⟨x, 5, none⟩ = false ∧ w.cell? ⟨x, 0, none⟩ = some (.int .i64 m.id) ∧ w.cell? ⟨x, 6, none⟩ = some (.int .i64 m.n) ∧ w.cell? ⟨x, 7, none⟩ = some (.int .i64 1) := by
 rw [← qex hs]
 exact ⟨by simp [World.cell?, h.b, j5], by simp [World.frozen?, h.b], by simp [World.cell?, h.b, j5], by simp [World.cell?, h.b, j5], by simp [World.cell?, h.b, j5]⟩
theorem NdW.done {w0 : World} {m : Mv} (h : NdW w0 x (B.pv n) (B.cv n) m w) (hp : MAt w0 G B s) (hn : n < 4) (hmv : s.mv n = some m) (hmp : B.mp n = some x) (hF : G x) :
  MAt (w.setCell ⟨x, 5, none⟩ (.string (frB 1 n m.id 0 ⟨#[]⟩))) G B { s with mv := qo s.mv n (some (nxM n m)) } ∧ But G w0 (w.setCell ⟨x, 5, none⟩ (.string (frB 1 n m.id 0 ⟨#[]⟩))) := by
 have k := xhs w x 5 _ _ (.string (frB 1 n m.id 0 ⟨#[]⟩)) h.b
 have hb := But.setCell (B := (· = x)) h.but rfl 5 (.string (frB 1 n m.id 0 ⟨#[]⟩))
 refine ⟨hp.mvb hn hmv hmp hb ?_ rfl rfl, hb.mono fun b e => e ▸ hF⟩
 rw [k]
 have e : sv (nxM n m).sent = .string (frB 1 n m.id 0 ⟨#[]⟩) := qks _
 unfold j5
 rw [e]
 rfl
theorem q05 (h : MAt w G B s) (hm0 : ∀ i, i < 4 → ∀ m, s.mv i = some m → m.n = 0 ∧ m.id < 9223372036854775808) (k : Int) (hk2 : -9223372036854775808 ≤ k ∧ k ≤ 9223372036854775807) :
  Calls Tryz.prog 61 #[.pointer (some ⟨B.ml, 0, none⟩), .int .i64 k] w (qdt w G B (.tuple #[sv (nxV s k), .int .i64 (nxE s k)]) (nxS s k)) := by
 by_cases hk : k < 0 ∨ 3 < k
 ·rw [(qh3 hk).1, (qh3 hk).2.1, (qh3 hk).2.2]
  have H := Lib.hid h
  clear h hm0
  rcases Int.lt_or_le k 0 with h2 | h2
  ·have g1 : decide (k < 0) = true := xdt h2
   go_enter Tryz.func61, Tryz.ntmps61
   go_wp2
   go_ret2
   exact .idle H.out (jo _ _)
  ·have g1 : decide (k < 0) = false := xdf (by omega)
   have g2 : decide (3 < k) = true := xdt (by omega)
   go_enter Tryz.func61, Tryz.ntmps61
   go_wp2
   go_ret2
   exact .idle H.out (jo _ _)
 have c1 : w.cell? ⟨B.ml, 1, none⟩ = some (.slice (some ⟨B.sb, 0, none⟩) 4 B.cap) := (h.cells 1 _ rfl).1
 obtain ⟨n, rfl⟩ : ∃ n : Nat, k = n := ⟨k.toNat, by omega⟩
 have hn : n < 4 := by omega
 have hn3 : ((n : Int) < 4) := by omega
 have g1 : decide ((n : Int) < 0) = false := xdf (by omega)
 have g2 : decide ((3 : Int) < n) = false := xdf (by omega)
 have hm := h.mv n hn
 obtain ⟨_, _, cV, fV⟩ := h.sbc hn
 cases hmv : s.mv n with
 |none =>
  rw [(qfs hn hmv).1, (qfs hn hmv).2.1, (qfs hn hmv).2.2]
  have H := Lib.hid h
  rw [hmv] at hm
  rw [hm.1] at cV
  replace cV : w.cell? ⟨B.sb, n * 3 + 2, none⟩ = some (.pointer none) := cV
  clear h hm hmv hk hm0 fV
  go_enter Tryz.func61, Tryz.ntmps61
  go_wp2
  go_ret2
  exact .idle H.out (jo _ _)
 |some m =>
  rw [hmv] at hm
  obtain ⟨x, z1, z2, z3, _⟩ := hm
  rw [z1] at cV
  replace cV : w.cell? ⟨B.sb, n * 3 + 2, none⟩ = some (.pointer (some ⟨x, 0, none⟩)) := cV
  obtain ⟨sb, hsb⟩ : ∃ b : ByteArray, b.data.toList = m.sent := ⟨⟨m.sent.toArray⟩, by simp⟩
  have c5 : w.cell? ⟨x, 5, none⟩ = some (.string sb) := by rw [← qex hsb]; simp [World.cell?, z3, j5]
  have hem : sb.toList.isEmpty = m.sent.isEmpty := by rw [ByteArray.toList_eq, hsb]
  cases hse : m.sent.isEmpty
  ·rw [(qd3 hn hmv hse).1, (qd3 hn hmv hse).2.1, (qd3 hn hmv hse).2.2, qex hsb]
   rw [hse] at hem
   have H := Lib.hid h
   clear h hmv hk hm0 z1 z2 z3 hse hsb fV
   go_enter Tryz.func61, Tryz.ntmps61
   go_wp2
   go_ret2
   exact .idle H.out (jo _ _)
  ·obtain ⟨h0, hid⟩ := hm0 n hn m hmv
   have c6 : w.cell? ⟨x, 6, none⟩ = some (.int .i64 0) := by simp [World.cell?, z3, j5, h0]
   have c7 : w.cell? ⟨x, 7, none⟩ = some (.int .i64 m.kind) := by simp [World.cell?, z3, j5]
   have f7 : w.frozen? ⟨x, 7, none⟩ = false := by simp [World.frozen?, z3]
   rw [hse] at hem
   have HE := Lib.hid (qx6 hn hmv hse)
   have H := Lib.hid h
   have HX := Lib.hid (And.intro z1 (And.intro z2 z3))
   have HMV := Lib.hid hmv
   have H0 := Lib.hid h0
   have HI := Lib.hid hid
   have HS := Lib.hid hsb
   have HN := Lib.hid (NdW.of z3)
   rw [HE.out.1, HE.out.2.1, HE.out.2.2, show sv (nxM n m).sent = .string (frB 1 n m.id 0 ⟨#[]⟩) from qks _]
   clear h hmv hk hm0 z1 z2 z3 hse hsb h0 hid fV
   go_enter Tryz.func61, Tryz.ntmps61
   go_wp2
   obtain ⟨w1, hw1⟩ : ∃ w1, w.setCell ⟨x, 7, none⟩ (.int .i64 1) = w1 := ⟨_, rfl⟩
   rw [hw1] at HN ⊢
   obtain ⟨d5, f5, d0, d6, d7⟩ := HN.out.cells HS.out
   rw [H0.out] at d6
   clear hw1 c5 c6 c7 f7
   go_region_with (first | (go_at_call 100; refine (qwf 1 n m.id 0 ⟨#[]⟩ (by decide) (by omega) HI.out (by decide) (by decide)).mono ?_; rintro e w2 ⟨rfl, hb2⟩; have HN2 := Lib.hid (HN.out.below ((Below.drew (jo _ _)).trans (hb2.mono (jy _)))); obtain ⟨e5, p5, _, _, _⟩ := HN2.out.cells HS.out; clear hb2))
   all_goals go_wp2
   all_goals go_ret2
   all_goals exact ⟨rfl, B, rfl, (HN2.out.done H.out hn HMV.out HX.out.1 HX.out.2.1).1.mono fun _ h => .inl h, (HN2.out.done H.out hn HMV.out HX.out.1 HX.out.2.1).2⟩
end
end Go.Proofs.YtkpekiajdlolnabGreat.Ph
namespace Go.Proofs.YtkpekiajdlolnabGreat
section
open Go.RowKit Go.Maps Go.Proofs.YtkpekiajdlolnabGreat.Ph
theorem qxl {k : Bs} (h : qaz k = true) : k.length ≤ 8 := by
 simp only [qaz, Bool.and_eq_true, decide_eq_true_eq] at h
 exact h.2.1
theorem q0s {L : KV} {k v : Bs} {g : Bool} (h : zi L) : zi (chL L k v g) := by
 unfold chL
 split
 ·split
  ·exact qki h k
  ·exact qrg h k v
 ·exact h
theorem q0q {L : KV} {k v : Bs} {g : Bool} (h : ∀ p ∈ L, p.1.length ≤ 8) (hk : qaz k = true) : ∀ p ∈ chL L k v g, p.1.length ≤ 8 := by
 unfold chL
 intro p hp
 split at hp
 ·split at hp
  ·exact h p (q1v hp)
  ·rcases q1w hp with rfl | hp
   ·exact qxl hk
   ·exact h p hp
 ·exact h p hp
structure qvj (n : Nat) (m : Mv) : Prop where
 cs : m.cs.length ≤ n
 id : m.id ≤ n
 nn : m.n = 0
 se : m.sealed = false
structure Ok2 (n : Nat) (s : St) : Prop where
 len : ∀ i, i < 4 → (s.kv i).length ≤ 12
 ris : ∀ i, i < 4 → zi (s.kv i)
 key : ∀ i, i < 4 → ∀ p ∈ s.kv i, p.1.length ≤ 8
 mv : ∀ i, i < 4 → ∀ m, s.mv i = some m → qvj n m
 id : s.id ≤ n
def Even (n : Nat) (c : Cst) : Prop := c.s = c.t ∧ Ok2 n c.s
theorem qvj.up {n n' : Nat} {m : Mv} (h : qvj n m) (k : n ≤ n') : qvj n' m := ⟨xlt h.cs k, xlt h.id k, h.nn, h.se⟩
theorem Ok2.up {n n' : Nat} {s : St} (h : Ok2 n s) (k : n ≤ n') : Ok2 n' s := ⟨h.len, h.ris, h.key, fun i hi m hm => (h.mv i hi m hm).up k, xlt h.id k⟩
section
variable {n : Nat} {s : St}
theorem q10 {h : Nat} (_h2 : 2 ≤ h) (_h4 : h ≤ 4) : Ok2 n (ql9 h) := ⟨fun i hi => xzl _, fun i hi => .nil, fun i hi p hp => (by cases hp), fun i hi m hm => (by cases hm), xzl _⟩
theorem q0w (L : KV) (cs : List Chg) (k v : ByteArray) (g : Bool) : (csL L cs k v g).length ≤ cs.length + 1 := by
 unfold csL
 split
 ·simp
 ·omega
theorem q5y (h : Ok2 n s) (y z : ByteArray) (g : Bool) : Ok2 (n + 1) (chS s y z g) := by
 unfold chS
 split
 ·rename_i hc
  have hk : qaz y.data.toList = true := by simp only [Bool.and_eq_true] at hc; exact hc.1
  have hs := qc0 y.data.toList
  generalize ji y.data.toList = q at *
  refine ⟨fun i hi => ?_, fun i hi => ?_, fun i hi => ?_, fun i hi m hm => ?_, Nat.le_succ_of_le h.id⟩
  ·show (qaf s.kv q _ i).length ≤ 12
   unfold qaf
   split
   ·exact q0r (h.len q hs)
   ·exact h.len i hi
  ·show zi (qaf s.kv q _ i)
   unfold qaf
   split
   ·exact q0s (h.ris q hs)
   ·exact h.ris i hi
  ·show ∀ p ∈ qaf s.kv q _ i, p.1.length ≤ 8
   unfold qaf
   split
   ·exact q0q (h.key q hs) hk
   ·exact h.key i hi
  ·have hm : qo s.mv q _ i = some m := hm
   by_cases e : i = q
   ·subst e
    rw [ja] at hm
    obtain ⟨m0, h0, rfl⟩ := Option.map_eq_some_iff.1 hm
    have hq := h.mv i hi m0 h0
    exact ⟨xlt (q0w ..) (Nat.succ_le_succ hq.cs), Nat.le_succ_of_le hq.id, hq.nn, hq.se⟩
   ·rw [qy _ _ e] at hm
    exact (h.mv i hi m hm).up (Nat.le_succ n)
 ·exact h.up (Nat.le_succ n)
theorem q50 (h : Ok2 n s) (k to : Int) : Ok2 (n + 1) (mvS s k to) := by
 unfold mvS
 split
 ·refine ⟨h.len, h.ris, h.key, fun i hi m hm => ?_, Nat.succ_le_succ h.id⟩
  have hm : qo s.mv k.toNat _ i = some m := hm
  by_cases e : i = k.toNat
  ·subst e
   rw [ja] at hm
   cases hm
   exact ⟨xzl _, Nat.succ_le_succ h.id, rfl, rfl⟩
  ·rw [qy _ _ e] at hm
   exact (h.mv i hi m hm).up (Nat.le_succ n)
 ·exact h.up (Nat.le_succ n)
theorem qsp {q : Nat} {o : Option Mv} (h : Ok2 n s) (ho : q < 4 → ∀ m, o = some m → qvj (n + 1) m) : Ok2 (n + 1) { s with mv := qo s.mv q o } := by
 refine ⟨h.len, h.ris, h.key, fun i hi m hm => ?_, Nat.le_succ_of_le h.id⟩
 have hm : qo s.mv q o i = some m := hm
 by_cases e : i = q
 ·subst e
  rw [ja] at hm
  exact ho hi m hm
 ·rw [qy _ _ e] at hm
  exact (h.mv i hi m hm).up (Nat.le_succ n)
theorem q5x (h : Ok2 n s) (k : Int) : Ok2 (n + 1) (abS s k) := by
 unfold abS
 split
 ·exact h.up (Nat.le_succ n)
 ·split
  ·exact h.up (Nat.le_succ n)
  ·split
   ·exact h.up (Nat.le_succ n)
   ·exact qsp h fun _ m hm => by cases hm
theorem q51 (h : Ok2 n s) (k : Int) : Ok2 (n + 1) (nxS s k) := by
 unfold nxS
 split
 ·exact h.up (Nat.le_succ n)
 ·split
  ·exact h.up (Nat.le_succ n)
  ·rename_i m hm
   split
   ·refine qsp h fun hq m' hm' => ?_
    cases hm'
    have := h.mv _ hq m hm
    exact ⟨Nat.le_succ_of_le this.cs, Nat.le_succ_of_le this.id, this.nn, this.se⟩
   ·exact h.up (Nat.le_succ n)
theorem PAt.clu {w : World} {F : Nat → Prop} {A : PA} (h : PAt w F A s) (hl : ∀ i, i < 4 → (s.kv i).length ≤ 12) : Clu w A.cl A.db A.mb s.kv := ⟨fun i hi => ⟨_, h.part i hi⟩, h.mbi, hl⟩
end
end
section
open Go.RowKit Go.Maps
section
variable {x : Nat → Value} {w : World} {Q : Exit → Act → World → Prop} {o : OpV} {W ob : Nat}
structure qbb (n0 : Nat) (w : World) (W n : Nat) (cs : List Cst) (ob : Nat) (o : OpV) : Prop where
 law : jr n0 w W n cs
 ev : ∀ c ∈ cs, Even n c
 op : w.heap[ob]? = some (.cells o.cells 30 (0, 0))
 oo : ∀ c ∈ cs, ¬ c.own ob
def je (n0 : Nat) (w : World) (W n : Nat) (cs : List Cst) (w' : World) : Prop := ∃ n' cs', jr n0 w' W n' cs' ∧ (∀ c ∈ cs', Even n' c) ∧ n' ≤ n + 1 ∧ cs'.length ≤ cs.length + 1 ∧ But (fun b => n0 ≤ b) w w'
variable {n0 n : Nat} {cs : List Cst}
theorem jr.refl' (h : jr n0 w W n cs) (he : ∀ c ∈ cs, Even n c) {w' : World} (hb : Below w.heap.size w w') : je n0 w W n cs w' :=
 ⟨n, cs, h.below hb, he, by omega, by omega, ⟨hb.size, fun b hb' _ => hb.block b hb', hb.os, hb.output⟩⟩
theorem qzo (hob : x 3 = .pointer (some ⟨ob, 0, none⟩)) (h : qbb n0 w W n cs ob o) (hk : o.k ≠ 1) (hq : Q .normal ⟨SS (upd (upd (upd x 19 (.pointer (some ⟨ob, 0, none⟩))) 20 (.int .i64 o.k)) 21 (.bool false)), []⟩ w) : Code.wp Tryz.prog tN Q ⟨SS x, []⟩ w := by
 have c0 : w.cell? ⟨ob, 0, none⟩ = some (.int .i64 o.k) := by simp [World.cell?, h.op, OpV.cells]
 have g1 : (o.k == 1) = false := by simpa using hk
 clear h hk
 obtain ⟨x, rfl⟩ := ql hob
 clear hob
 unfold tN tB SS
 simp only [Tryz.f15, Option.getD, hd1, tl1, upd, Nat.reduceEqDiff, if_true, if_false]
 go_wp2
 exact hq
theorem jbv (hob : x 3 = .pointer (some ⟨ob, 0, none⟩)) (h : qbb n0 w W n cs ob o) (hk : o.k = 1) (hb : o.b < 2 ∨ 4 < o.b) (hb2 : -9223372036854775808 ≤ o.b ∧ o.b ≤ 9223372036854775807) : Code.wp Tryz.prog tN (qgu (je n0 w W n cs)) ⟨SS x, []⟩ w := by
 have c0 : w.cell? ⟨ob, 0, none⟩ = some (.int .i64 1) := by simp [World.cell?, h.op, OpV.cells, hk]
 have c2 : w.cell? ⟨ob, 2, none⟩ = some (.int .i64 o.b) := by simp [World.cell?, h.op, OpV.cells]
 have H := Lib.hid h
 have HB := Lib.hid (And.intro hb hb2)
 clear h hk hb hb2
 obtain ⟨x, rfl⟩ := ql hob
 clear hob
 unfold tN tB SS
 simp only [Tryz.f15, Option.getD, hd1, tl1, upd, Nat.reduceEqDiff, if_true, if_false]
 go_wp2_with (first
  |(go_at_call 17; refine (q5u o.b HB.out.1 HB.out.2).mono ?_; rintro e w1 ⟨rfl, rfl⟩)
  |(go_at_call 22; refine (q2g o.b HB.out.1 HB.out.2).mono ?_; rintro e w1 ⟨rfl, rfl⟩))
 exact ⟨rfl, rfl, H.out.law.refl' H.out.ev (jo _ _)⟩
end
section
variable {x : Nat → Value} {w : World} {Q : Exit → Act → World → Prop} {o : OpV} {W ob n0 n : Nat} {cs : List Cst}
theorem q40 (w : World) (a b : Value) (ty : TypeId) : ∀ (j : Nat) (u : Value), [a, b][j]? = some u → (w.alloc (.cells #[a, b] ty)).cell? ((⟨w.heap.size, 0, none⟩ : Addr).add j) = some u := fun j u hj => by
 rw [Addr.add_lit, Nat.zero_add]
 match j, hj with
 |0, hj => simp at hj; subst hj; go_simp
 |1, hj => simp at hj; subst hj; go_simp
structure qpw (n0 : Nat) (w0 w : World) (W n : Nat) (cs : List Cst) (c : Cst) (CS : qji) (S : Value) (m : Nat) (bs : List Bs) : Prop where
 lw : qgq n0 w W n cs CS S m bs
 law : jr n0 w W n cs
 cst : qav n0 w c
 ap : ∀ d ∈ cs, Apart d c
 off : ∀ b, qns W CS S b ∨ qad w S b → ¬ c.own b
 even : Even n c
 below : Below w0.heap.size w0 w
theorem qpw.of {w1 w2 : World} {A : PA} {B : MA} {s : St} (h : jr n0 w W n cs) (h1 : PAt w1 (fun b => w.heap.size ≤ b) A s) (b1 : Below w.heap.size w w1) (h2 : MAt w2 (fun b => w1.heap.size ≤ b) B s) (b2 : Below w1.heap.size w1 w2) (hok : Ok2 n s) :
  ∃ c CS S m bs, c.A = A ∧ c.B = B ∧ qpw n0 w w2 W n cs c CS S m bs := by
 have hbb : Below w.heap.size w w2 := b1.trans (b2.mono b1.size)
 have hl := h.below hbb
 obtain ⟨CS, S, m, bs, hw⟩ := h.b
 have l0 := h.qig
 have z1 := b1.size
 have z2 := b2.size
 have hlo : ∀ b, (⟨A, B, fun b => w.heap.size ≤ b ∧ b < w1.heap.size, fun b => w1.heap.size ≤ b ∧ b < w2.heap.size, s, s⟩ : Cst).own b → w.heap.size ≤ b ∧ b < w2.heap.size := fun b hb => by
  rcases hb with hb | hb
  ·exact ⟨hb.1, xll hb.2 z2⟩
  ·exact ⟨xlt z1 hb.1, hb.2⟩
 refine ⟨⟨A, B, fun b => w.heap.size ≤ b ∧ b < w1.heap.size, fun b => w1.heap.size ≤ b ∧ b < w2.heap.size, s, s⟩, CS, S, m, bs, rfl, rfl, hw.idle (But.of_below hbb), hl, ⟨h1.lts.frame fun b hb => b2.block b hb.2, h2.lts, fun b hb => ⟨xlt l0 (hlo b hb).1, (hlo b hb).2⟩, fun b hf hg => by have := hf.2; have := hg.1; omega⟩, fun d hd b hdb hcb => ?_, fun b hb hcb => ?_, ⟨rfl, hok⟩, hbb⟩
 ·have h1 := ((h.each d hd).lo b hdb).2
  have h2 := (hlo b hcb).1
  omega
 ·have h2 := (hlo b hcb).1
  rcases hb with hb | hb
  ·have := hw.lt hb; omega
  ·have hg' : qad w S b := by
    obtain ⟨xs, h6⟩ := hw.ls.row
    unfold qad at hb ⊢; rw [x9 fun q hq => hbb.block q (h6.lt q hq).2] at hb; exact hb
   have := hw.qj1 hg'; omega
theorem qpw.cell {w0 : World} {c : Cst} {CS : qji} {S : Value} {m : Nat} {bs : List Bs} (h : qpw n0 w0 w W n cs c CS S m bs) : w.cell? ⟨W, 0, none⟩ = some CS.cs ∧ w.frozen? ⟨W, 0, none⟩ = false := by
 obtain ⟨cur, h1, h2, h3, h4⟩ := h.lw.ls.b
 exact ⟨by simp [World.cell?, h1, h3], by simp [World.frozen?, h1]⟩
theorem qpw.done {w0 w3 : World} {c : Cst} {CS : qji} {S v3 : Value} {m : Nat} {bs : List Bs} {ob' : Obj} (h : qpw n0 w0 w W n cs c CS S m bs) (he : ∀ c ∈ cs, Even n c) (hg : (w.alloc ob').grownBy w3 CS.cs.ownBlock) (hat : v3.ownBlock = CS.cs.ownBlock ∨ v3.ownBlock = some (w.alloc ob').heap.size) (hr : w3.ownsRow n0 56 2 v3 (cs.length + 1) (qe2 cs ++ [.pointer (some ⟨c.A.cl, 0, none⟩), .pointer (some ⟨c.B.ml, 0, none⟩)])) :
  w3.cell? ⟨W, 0, none⟩ = some CS.cs ∧ w3.frozen? ⟨W, 0, none⟩ = false ∧ je n0 w0 W n cs (w3.setCell ⟨W, 0, none⟩ v3) := by
 obtain ⟨h1, h2, h3, h4⟩ := h.law.add h.lw h.cst h.ap h.off hg (fun g e => by
  rcases hat with e2 | e2
  ·left; rw [← e2]; exact e
  ·right; rw [e2] at e; cases e; simp) hr
 refine ⟨h1, h2, n, cs ++ [c], h3, fun d hd => ?_, by omega, by simp, (But.of_below (B := fun b => n0 ≤ b) h.below).trans h4⟩
 rcases List.mem_append.1 hd with hd | hd
 ·exact he d hd
 ·rw [List.mem_singleton] at hd; subst hd; exact h.even
theorem q7a {k : Nat} (hW : x 0 = .pointer (some ⟨W, 0, none⟩)) (hob : x 3 = .pointer (some ⟨ob, 0, none⟩)) (h : qbb n0 w W n cs ob o) (hk : o.k = 1) (hb : o.b = (k : Nat)) (h2 : 2 ≤ k) (h4 : k ≤ 4) (hlen : cs.length ≤ 4398046511103) : Code.wp Tryz.prog tN (qgu (je n0 w W n cs)) ⟨SS x, []⟩ w := by
 have c0 : w.cell? ⟨ob, 0, none⟩ = some (.int .i64 1) := by simp [World.cell?, h.op, OpV.cells, hk]
 have c2 : w.cell? ⟨ob, 2, none⟩ = some (.int .i64 (k : Nat)) := by simp [World.cell?, h.op, OpV.cells, hb]
 have H := Lib.hid h
 have HB := Lib.hid (And.intro h2 h4)
 have HK := Lib.hid hlen
 clear h hk hb h2 h4 hlen
 obtain ⟨x, rfl⟩ := ql hW
 obtain ⟨x, rfl⟩ := ql (x := x) (j := 3) (v := .pointer (some ⟨ob, 0, none⟩)) hob
 clear hob hW
 obtain ⟨pi, l1, l2, l3, l4⟩ := qua
 have HI := Lib.hid (And.intro l1 (And.intro l2 (And.intro l3 l4)))
 clear l1 l2 l3 l4
 unfold tN tB SS
 simp only [Tryz.f15, Option.getD, hd1, tl1, upd, Nat.reduceEqDiff, if_true, if_false]
 go_wp2_with (first
  |(go_at_call 17; refine (qyx k HB.out.1 HB.out.2).mono ?_; rintro e w1 ⟨A, rfl, hn1, hb1⟩; have c2 := (hb1.cell (xbl w _ c2)).trans c2; have H1 := Lib.hid (And.intro hn1 hb1); clear hn1 hb1)
  |(go_at_call 22; refine (qy4 k HB.out.1 HB.out.2).mono ?_; rintro e w2 ⟨B, rfl, hm, hb⟩; obtain ⟨c, ⟨_, bv, ov⟩, S, m, bs, rfl, rfl, hN⟩ := qpw.of H.out.law H1.out.1 H1.out.2 hm hb (q10 HB.out.1 HB.out.2); obtain ⟨sa, cp, hv⟩ := xq hN.lw.cr; replace hv : _ = _ := hv; subst hv; obtain ⟨d0, d1⟩ := hN.cell; have HN := Lib.hid hN; clear hN hm hb)
  |(at_builtin; (refine wpList_append_own_at _ rfl (.tmp 55) (.tmp 59) 32 rfl n0 56 pi _ 2 16 Tryz.underlying32 HI.out.1 HI.out.2.1 HI.out.2.2.1 HI.out.2.2.2 rfl (by decide) (.slice sa cs.length cp) cs.length (qe2 cs) rfl (HN.out.lw.cr.alloc _) ⟨w2.heap.size, 0, none⟩ 1 1 [.pointer (some ⟨c.A.cl, 0, none⟩), .pointer (some ⟨c.B.ml, 0, none⟩)] rfl rfl (q40 w2 _ _ _) (by intro u hu; simp at hu; rcases hu with rfl | rfl <;> rfl) (by have := HK.out; unfold maxLen; omega) (by have := HK.out; omega) (by have a0 := HN.out.law.qig; simp; omega) ?_; intro v3 w3 hrow3 hg3 _ qop; have H3 := Lib.hid (HN.out.done H.out.ev hg3 qop hrow3); obtain ⟨sa3, cp3, hv3⟩ := xq hrow3; subst hv3; obtain ⟨d3, e3, _⟩ := H3.out; clear hrow3 hg3 qop)))
 exact ⟨rfl, rfl, H3.out.2.2⟩
end
def Jn (R : (Nat → Value) → World → Prop) : Exit → Act → World → Prop
 | .normal, a, w => ∃ x, a = ⟨SS x, []⟩ ∧ R x w
 |_, _, _ => False
theorem qvp (x : Nat → Value) : SS x = ((List.range 224).map x).toArray := rfl
theorem qr1 {t : Array Value} (h : t.size = 224) : SS (fun i => t.getD i undef) = t := by
 rw [qvp]
 apply Array.ext
 ·simp [h]
 ·intro i h1 h2
  simp [h2]
theorem jn {R : (Nat → Value) → World → Prop} {t : Array Value} {w : World} (h : t.size = 224) (r : R (fun i => t.getD i undef) w) : Jn R .normal ⟨t, []⟩ w := ⟨_, by rw [qr1 h], r⟩
section
variable {x : Nat → Value} {w : World} {Q : Exit → Act → World → Prop} {o : OpV} {W ob n0 n : Nat} {cs : List Cst}
theorem qbb.qxo (h : qbb n0 w W n cs ob o) : ∃ sa cp, w.cell? ⟨W, 0, none⟩ = some (.slice sa cs.length cp) ∧ w.ownsRow n0 56 2 (.slice sa cs.length cp) cs.length (qe2 cs) := by
 obtain ⟨CS, S, m, bs, hw⟩ := h.law.b
 have h4 := hw.cr
 obtain ⟨cur, h1, _, h2, _⟩ := hw.ls.b
 obtain ⟨sa, cp, e⟩ := xq h4
 rw [e] at h2 h4
 exact ⟨sa, cp, by simp [World.cell?, h1, h2], h4⟩
theorem q26 (hW : x 0 = .pointer (some ⟨W, 0, none⟩)) (h : qbb n0 w W n cs ob o) (hk : cs = []) : Code.wp Tryz.prog tEm (qgu (je n0 w W n cs)) ⟨SS x, []⟩ w := by
 obtain ⟨sa, cp, c0, _⟩ := h.qxo
 have H := Lib.hid h
 subst hk
 clear h
 simp only [List.length_nil] at c0
 obtain ⟨x, rfl⟩ := ql hW
 clear hW
 unfold tEm tB SS
 simp only [Tryz.f15, Option.getD, hd1, tl1, upd, Nat.reduceEqDiff, if_true, if_false]
 go_wp2
 exact ⟨rfl, rfl, H.out.law.refl' H.out.ev (jo _ _)⟩
theorem qzm (hW : x 0 = .pointer (some ⟨W, 0, none⟩)) (hob : x 3 = .pointer (some ⟨ob, 0, none⟩)) (h : qbb n0 w W n cs ob o) (hk : 0 < cs.length) :
  Code.wp Tryz.prog tEm (Jn fun x w' => x 0 = .pointer (some ⟨W, 0, none⟩) ∧ x 3 = .pointer (some ⟨ob, 0, none⟩) ∧ w' = w) ⟨SS x, []⟩ w := by
 obtain ⟨sa, cp, c0, _⟩ := h.qxo
 have hn : ((cs.length : Int) == 0) = false := by rw [beq_eq_false_iff_ne]; omega
 clear h
 obtain ⟨x, rfl⟩ := ql hW
 obtain ⟨x, rfl⟩ := ql (x := x) (j := 3) (v := .pointer (some ⟨ob, 0, none⟩)) hob
 clear hW hob hk
 unfold tEm tB SS
 simp only [Tryz.f15, Option.getD, hd1, tl1, upd, Nat.reduceEqDiff, if_true, if_false]
 go_wp2
 exact jn rfl ⟨rfl, rfl, rfl⟩
theorem qyv {a : Int} {n : Nat} (h : 0 < n) : qf9 a n < n := Nat.mod_lt _ h
structure q8k (w : World) (g W ob k n cap : Nat) (o : OpV) (c : Cst) : Prop where
 c0 : w.cell? ⟨W, 0, none⟩ = some (.slice (some ⟨g, 0, none⟩) n cap)
 c1 : w.cell? ⟨ob, 1, none⟩ = some (.int .i64 o.a)
 e0 : w.cell? ⟨g, k * 2, none⟩ = some (.pointer (some ⟨c.A.cl, 0, none⟩))
 e1 : w.cell? ⟨g, k * 2 + 1, none⟩ = some (.pointer (some ⟨c.B.ml, 0, none⟩))
theorem qbb.pick {c : Cst} {k : Nat} (h : qbb n0 w W n cs ob o) (hc : cs[k]? = some c) : ∃ g cap, q8k w g W ob k cs.length cap o c := by
 obtain ⟨sa, cp, c0, hr⟩ := h.qxo
 have hlt := (List.getElem?_eq_some_iff.1 hc).1
 obtain ⟨p1, p2⟩ := qpc cs k c hc
 rcases hr.2 with ⟨_, hz⟩ | ⟨g, cap, cur, e, _⟩
 ·omega
 ·injection e with e1 e2 e3
  subst e1; subst e3
  have d1 := hr.cells (g := g) rfl _ _ p1
  have d2 := hr.cells (g := g) rfl _ _ p2
  rw [Addr.add_lit, Nat.zero_add] at d1 d2
  exact ⟨g, cp, c0, by simp [World.cell?, h.op, OpV.cells], d1, d2⟩
theorem qyw {w : World} {a b c d : Addr} {x y z u : Value} (o : Obj) (h1 : w.cell? a = some x) (h2 : w.cell? b = some y) (h3 : w.cell? c = some z) (h4 : w.cell? d = some u) :
  (w.alloc o).cell? a = some x ∧ (w.alloc o).cell? b = some y ∧ (w.alloc o).cell? c = some z ∧ (w.alloc o).cell? d = some u := by
 have hb := (jo w.heap.size w).alloc (jy _) o
 have key : ∀ {e : Addr} {v : Value}, w.cell? e = some v → (w.alloc o).cell? e = some v := fun {e v} h => (hb.cell (xbl w _ h)).trans h
 exact ⟨key h1, key h2, key h3, key h4⟩
def qjk (w : World) (pb : Nat) (c : Cst) : Prop := w.heap[pb]? = some (.cells #[.pointer (some ⟨c.A.cl, 0, none⟩), .pointer (some ⟨c.B.ml, 0, none⟩)] 56 (0, 0))
theorem jbz {c : Cst} (hW : x 0 = .pointer (some ⟨W, 0, none⟩)) (hob : x 3 = .pointer (some ⟨ob, 0, none⟩)) (h : qbb n0 w W n cs ob o) (hc : cs[qf9 o.a cs.length]? = some c) (hl : cs.length ≤ 4398046511104) (ha : -9223372036854775808 ≤ o.a ∧ o.a ≤ 9223372036854775807) :
  Code.wp Tryz.prog tP (Jn fun x w' => x 0 = .pointer (some ⟨W, 0, none⟩) ∧ x 3 = .pointer (some ⟨ob, 0, none⟩) ∧ x 9 = .pointer (some ⟨w.heap.size, 0, none⟩) ∧ qjk w' w.heap.size c ∧ Below w.heap.size w w') ⟨SS x, []⟩ w := by
 have hlt := (List.getElem?_eq_some_iff.1 hc).1
 obtain ⟨g, cap, c0, c1, e0, e1⟩ := h.pick hc
 have HA := Lib.hid ha
 have HL := Lib.hid hl
 have H0 : Hid (0 < cs.length) := Lib.hid (by omega)
 clear h ha hl hc
 generalize cs.length = m at *
 obtain ⟨k, hk⟩ : ∃ k, qf9 o.a m = k := ⟨_, rfl⟩
 rw [hk] at hlt e0 e1
 have HK := Lib.hid hk
 have hki : (k : Int) < (m : Int) := by omega
 have hk0 : (0 : Int) ≤ (k : Int) := by omega
 clear hk
 obtain ⟨x, rfl⟩ := ql hW
 obtain ⟨x, rfl⟩ := ql (x := x) (j := 3) (v := .pointer (some ⟨ob, 0, none⟩)) hob
 clear hW hob
 unfold tP tB SS
 simp only [Tryz.f15, Option.getD, hd1, tl1, upd, Nat.reduceEqDiff, if_true, if_false]
 go_wp2
 go_region_held3 (fun w' => w'.cell? ⟨W, 0, none⟩ = some (.slice (some ⟨g, 0, none⟩) m cap) ∧ w'.cell? ⟨ob, 1, none⟩ = some (.int .i64 o.a) ∧ w'.cell? ⟨g, k * 2, none⟩ = some (.pointer (some ⟨c.A.cl, 0, none⟩)) ∧ w'.cell? ⟨g, k * 2 + 1, none⟩ = some (.pointer (some ⟨c.B.ml, 0, none⟩)))
  (first | exact ⟨c0, c1, e0, e1⟩ | assumption | exact qyw _ c0 c1 e0 e1)
  (first | (go_at_call 23; refine (q56 _ _ H0.out HL.out HA.out.1 HA.out.2).mono ?_; rintro e w1 ⟨rfl, rfl⟩; rw [HK.out]))
 all_goals exact jn rfl ⟨rfl, rfl, rfl, heap_alloc_new _ _, ((jo _ _).alloc (jy _) _).drew⟩
end
noncomputable def c1 : Code → Code
 | .cond _ a _ => a
 |c => c
noncomputable def c2 : Code → Code
 | .cond _ _ b => b
 |c => c
noncomputable def blk : Code → Code
 | .block _ c => c
 |c => c
noncomputable def q3d : Code := hd1 (hd1 tM)
noncomputable def tK2 : Code := blk (tl1 (hd1 tM))
noncomputable def tK3 : Code := c2 (tl1 tK2)
noncomputable def tK4 : Code := c2 (tl1 tK3)
noncomputable def tK5 : Code := c2 (tl1 tK4)
noncomputable def tK6 : Code := c2 (tl1 tK5)
noncomputable def q3b : Code := c1 (tl1 tK2)
noncomputable def q23 : Code := c1 (tl1 tK3)
noncomputable def q28 : Code := c1 (tl1 tK4)
noncomputable def qa3 : Code := c1 (tl1 tK5)
noncomputable def tMv : Code := c1 (tl1 tK6)
noncomputable def tK7 : Code := c2 (tl1 tK6)
noncomputable def tAb : Code := c1 (tl1 tK7)
noncomputable def tK8 : Code := c2 (tl1 tK7)
noncomputable def tLk : Code := c1 (tl1 tK8)
structure SwW (n0 : Nat) (w : World) (W n : Nat) (cs : List Cst) (ob pb k : Nat) (o : OpV) (c : Cst) : Prop where
 st : qbb n0 w W n cs ob o
 pr : qjk w pb c
 ck : cs[k]? = some c
 po : ¬ c.own pb
section
variable {x : Nat → Value} {w w1 : World} {Q : Exit → Act → World → Prop} {o : OpV} {W ob pb k n0 n : Nat} {cs : List Cst} {c : Cst}
theorem qbb.below (h : qbb n0 w W n cs ob o) (hb : Below w.heap.size w w1) : qbb n0 w1 W n cs ob o := ⟨h.law.below hb, h.ev, (hb.block ob (zx h.op).1).trans h.op, h.oo⟩
theorem SwW.below (h : SwW n0 w W n cs ob pb k o c) (hb : Below w.heap.size w w1) : SwW n0 w1 W n cs ob pb k o c := ⟨h.st.below hb, (hb.block pb (zx h.pr).1).trans h.pr, h.ck, h.po⟩
theorem SwW.mem (h : SwW n0 w W n cs ob pb k o c) : c ∈ cs := List.mem_of_getElem? h.ck
theorem SwW.cst (h : SwW n0 w W n cs ob pb k o c) : qav n0 w c := h.st.law.each c h.mem
theorem SwW.e (h : SwW n0 w W n cs ob pb k o c) : c.s = c.t := (h.st.ev c h.mem).1
theorem SwW.ok (h : SwW n0 w W n cs ob pb k o c) : Ok2 n c.s := (h.st.ev c h.mem).2
theorem SwW.okt (h : SwW n0 w W n cs ob pb k o c) : Ok2 n c.t := h.e ▸ h.ok
def SwC (w : World) (ob pb : Nat) (o : OpV) (c : Cst) : Prop := w.cell? ⟨pb, 0, none⟩ = some (.pointer (some ⟨c.A.cl, 0, none⟩)) ∧ w.cell? ⟨pb, 1, none⟩ = some (.pointer (some ⟨c.B.ml, 0, none⟩)) ∧ w.cell? ⟨ob, 2, none⟩ = some (.int .i64 o.b) ∧ w.cell? ⟨ob, 7, none⟩ = some (.string o.s) ∧ w.cell? ⟨ob, 8, none⟩ = some (.string o.t) ∧ w.cell? ⟨ob, 3, none⟩ = some (.int .i64 o.c)
theorem swc (h : qjk w pb c) (h2 : w.heap[ob]? = some (.cells o.cells 30 (0, 0))) : SwC w ob pb o c :=
 ⟨by simp [World.cell?, show w.heap[pb]? = _ from h], by simp [World.cell?, show w.heap[pb]? = _ from h], by simp [World.cell?, h2, OpV.cells], by simp [World.cell?, h2, OpV.cells], by simp [World.cell?, h2, OpV.cells], by simp [World.cell?, h2, OpV.cells]⟩
theorem SwW.cells (h : SwW n0 w W n cs ob pb k o c) : SwC w ob pb o c := swc h.pr h.st.op
structure qgs (n0 : Nat) (w0 w : World) (W n : Nat) (cs : List Cst) (ob pb k : Nat) (o : OpV) (c c' : Cst) (s' : St) : Prop where
 law : jr n0 w W n (cs.set k c')
 pr : qjk w pb c
 op : w.heap[ob]? = some (.cells o.cells 30 (0, 0))
 but : But (fun b => n0 ≤ b) w0 w
 t : c'.t = c.t
 s : c'.s = s'
 ml : c'.B = c.B
 cl : c'.A.cl = c.A.cl
 oo : ¬ c'.own ob
 po : ¬ c'.own pb
theorem qgs.cells {w0 : World} {c' : Cst} {s' : St} (h : qgs n0 w0 w W n cs ob pb k o c c' s') : SwC w ob pb o c := swc h.pr h.op
theorem qhd (h : SwW n0 w W n cs ob pb k o c) (hb : Below w.heap.size w w1) {f : FuncId} {args : Array Value} {v : Value} {s' : St} (hc : PAt w1 c.F c.A c.s → Calls Tryz.prog f args w1 (Ph.qf5 w1 c.F c.A v s')) :
  Calls Tryz.prog f args w1 fun e w' => e = .returned v ∧ ∃ c', qgs n0 w w' W n cs ob pb k o c c' s' := by
 have h1 := h.below hb
 refine (hc h1.cst.p).mono fun e w' ⟨e1, A', e2, e3, e4⟩ => ⟨e1, ⟨A', c.B, fun b => (c.F b ∨ w1.heap.size ≤ b) ∧ b < w'.heap.size, c.G, s', c.t⟩, ?_⟩
 have hob := h1.st.oo c h1.mem
 have l1 := (zx h1.st.op).1
 have l2 := (zx h1.pr).1
 have new : ∀ b, b < w1.heap.size → ¬ c.own b → ¬ (⟨A', c.B, fun b => (c.F b ∨ w1.heap.size ≤ b) ∧ b < w'.heap.size, c.G, s', c.t⟩ : Cst).own b := fun b hb hn ho => by
  rcases ho with ⟨ho | ho, _⟩ | ho
  ·exact hn (.inl ho)
  ·omega
  ·exact hn (.inr ho)
 exact ⟨h1.st.law.prog h1.ck e4 e3 e2, (e4.keep pb l2 fun x => h1.po (.inl x)).trans h1.pr, (e4.keep ob l1 fun x => hob (.inl x)).trans h1.st.op, (But.of_below (B := fun b => n0 ≤ b) hb).trans (e4.mono fun b hf => (h1.cst.lo b (.inl hf)).1), rfl, rfl, rfl, e2, new ob l1 hob, new pb l2 h1.po⟩
theorem qqe {w0 : World} {c' : Cst} {s' : St} (h : qgs n0 w0 w W n cs ob pb k o c c' s') (hb : Below w.heap.size w w1) (hk : cs[k]? = some c) (he : ∀ c ∈ cs, Even n c) {f : FuncId} {args : Array Value} {v : Value} (hc : MAt w1 c'.G c.B c.t → Calls Tryz.prog f args w1 (Ph.qdt w1 c'.G c.B v s')) (hok : Ok2 (n + 1) s') :
  Calls Tryz.prog f args w1 fun e w' => e = .returned v ∧ je n0 w0 W n cs w' ∧ SwC w' ob pb o c := by
 have hlt := (List.getElem?_eq_some_iff.1 hk).1
 have hk1 : (cs.set k c')[k]? = some c' := List.getElem?_set_self hlt
 have h1 := h.law.below hb
 have hcc := h1.each c' (List.mem_of_getElem? hk1)
 have hm : MAt w1 c'.G c.B c.t := by rw [← h.t, ← h.ml]; exact hcc.m
 refine (hc hm).mono fun e w' ⟨e1, B', e2, e3, e4⟩ => ⟨e1, ⟨n + 1, _, ((h1.doc hk1 e4 e3 (e2.trans (by rw [h.ml]))).up (Nat.le_succ n)), fun d hd => ?_, jy _, by simp, h.but.trans ((But.of_below (B := fun b => n0 ≤ b) hb).trans (e4.mono fun b hg => (hcc.lo b (.inr hg)).1))⟩, ?_⟩
 ·rw [List.set_set] at hd
  rcases List.mem_or_eq_of_mem_set hd with hd | hd
  ·exact ⟨(he d hd).1, (he d hd).2.up (Nat.le_succ n)⟩
  ·subst hd
   exact ⟨h.s, by rw [show (Cst.s _) = s' from h.s]; exact hok⟩
 ·have l1 := (zx h.op).1
  have l2 := (zx h.pr).1
  have z := hb.size
  exact swc ((e4.keep pb (by omega) fun x => h.po (.inr x)).trans ((hb.block pb l2).trans h.pr)) ((e4.keep ob (by omega) fun x => h.oo (.inr x)).trans ((hb.block ob l1).trans h.op))
theorem q6a (h : SwW n0 w W n cs ob pb k o c) (hb : Below w.heap.size w w1) (hs : o.s.size ≤ maxLen) (hn : n ≤ 1073741820) :
  Calls Tryz.prog 18 #[.pointer (some ⟨c.A.cl, 0, none⟩), .string o.s, .string o.t] w1 fun e w' => e = .returned (.int .i64 (Ph.chE c.s o.s o.t false)) ∧ ∃ c', qgs n0 w w' W n cs ob pb k o c c' (Ph.chS c.s o.s o.t false) :=
 qhd h hb fun hp => Ph.q58 hp h.ok.len (fun i hi m hm => by have := (h.ok.mv i hi m hm).cs; omega) o.s o.t hs
theorem q44 (h : SwW n0 w W n cs ob pb k o c) (hb : Below w.heap.size w w1) (hs : o.s.size ≤ maxLen) (hn : n ≤ 1073741820) :
  Calls Tryz.prog 25 #[.pointer (some ⟨c.A.cl, 0, none⟩), .string o.s] w1 fun e w' => e = .returned (.int .i64 (Ph.chE c.s o.s ⟨#[]⟩ true)) ∧ ∃ c', qgs n0 w w' W n cs ob pb k o c c' (Ph.chS c.s o.s ⟨#[]⟩ true) :=
 qhd h hb fun hp => Ph.qud hp h.ok.len (fun i hi m hm => by have := (h.ok.mv i hi m hm).cs; omega) o.s hs
theorem qwb {w0 : World} {c' : Cst} {y z : ByteArray} {g : Bool} (h0 : SwW n0 w0 W n cs ob pb k o c) (h : qgs n0 w0 w W n cs ob pb k o c c' (Ph.chS c.s y z g)) (hb : Below w.heap.size w w1) (hn : n ≤ 1073741820) :
  Calls Tryz.prog 24 #[.pointer (some ⟨c.B.ml, 0, none⟩), .agg #[.string y, .string z, .bool g]] w1 fun e w' => e = .returned (.int .i64 (Ph.chE c.s y z g)) ∧ je n0 w0 W n cs w' ∧ SwC w' ob pb o c := by
 refine qqe h hb h0.ck h0.st.ev (fun hm => ?_) (q5y h0.ok y z g)
 rw [h0.e]
 exact Ph.qtq hm h0.okt.len h0.okt.ris (fun i hi m hm => by have := (h0.okt.mv i hi m hm).cs; omega) y z g
theorem q3c (hob : x 3 = .pointer (some ⟨ob, 0, none⟩)) (hpb : x 9 = .pointer (some ⟨pb, 0, none⟩)) (h : SwW n0 w W n cs ob pb k o c) (hs : o.s.size ≤ maxLen ∧ n ≤ 1073741820) : Code.wp Tryz.prog q3b (qgu (je n0 w W n cs)) ⟨SS x, []⟩ w := by
 obtain ⟨a1, a2, a3, a4, a5, a6⟩ := h.cells
 have H := Lib.hid h
 have HS := Lib.hid hs
 clear h hs
 obtain ⟨x, rfl⟩ := ql hob
 obtain ⟨x, rfl⟩ := ql (x := x) (j := 9) (v := .pointer (some ⟨pb, 0, none⟩)) hpb
 clear hob hpb
 unfold q3b tK2 tM tB SS
 simp only [Tryz.f15, Option.getD, hd1, tl1, c1, c2, blk, upd, Nat.reduceEqDiff, if_true, if_false]
 go_wp2
 go_region_held3 (fun w' => w'.cell? ⟨pb, 0, none⟩ = some (.pointer (some ⟨c.A.cl, 0, none⟩)) ∧ w'.cell? ⟨pb, 1, none⟩ = some (.pointer (some ⟨c.B.ml, 0, none⟩)) ∧ w'.cell? ⟨ob, 7, none⟩ = some (.string o.s) ∧ w'.cell? ⟨ob, 8, none⟩ = some (.string o.t))
  (first | exact ⟨a1, a2, a4, a5⟩ | exact ⟨H1.out.cells.1, H1.out.cells.2.1, H1.out.cells.2.2.2.1, H1.out.cells.2.2.2.2.1⟩ | exact ⟨H2.out.2.1, H2.out.2.2.1, H2.out.2.2.2.2.1, H2.out.2.2.2.2.2.1⟩)
  (first
   |(go_at_call 18; refine (q6a H.out (by first | exact jo _ _ | exact (jo _ _).drew) HS.out.1 HS.out.2).mono ?_; rintro e w1 ⟨rfl, c', h1⟩; have H1 := Lib.hid h1; clear h1)
   |(go_at_call 24; refine (qwb H.out H1.out (by first | exact jo _ _ | exact (jo _ _).drew) HS.out.2).mono ?_; rintro e w2 ⟨rfl, h2⟩; have H2 := Lib.hid h2; clear h2))
 go_wp2
 exact ⟨rfl, rfl, H2.out.1⟩
theorem q25 (hob : x 3 = .pointer (some ⟨ob, 0, none⟩)) (hpb : x 9 = .pointer (some ⟨pb, 0, none⟩)) (h : SwW n0 w W n cs ob pb k o c) (hs : o.s.size ≤ maxLen ∧ n ≤ 1073741820) : Code.wp Tryz.prog q23 (qgu (je n0 w W n cs)) ⟨SS x, []⟩ w := by
 obtain ⟨a1, a2, a3, a4, a5, a6⟩ := h.cells
 have H := Lib.hid h
 have HS := Lib.hid hs
 clear h hs
 obtain ⟨x, rfl⟩ := ql hob
 obtain ⟨x, rfl⟩ := ql (x := x) (j := 9) (v := .pointer (some ⟨pb, 0, none⟩)) hpb
 clear hob hpb
 unfold q23 tK3 tK2 tM tB SS
 simp only [Tryz.f15, Option.getD, hd1, tl1, c1, c2, blk, upd, Nat.reduceEqDiff, if_true, if_false]
 go_wp2
 go_region_held3 (fun w' => w'.cell? ⟨pb, 0, none⟩ = some (.pointer (some ⟨c.A.cl, 0, none⟩)) ∧ w'.cell? ⟨pb, 1, none⟩ = some (.pointer (some ⟨c.B.ml, 0, none⟩)) ∧ w'.cell? ⟨ob, 7, none⟩ = some (.string o.s))
  (first | exact ⟨a1, a2, a4⟩ | exact ⟨H1.out.cells.1, H1.out.cells.2.1, H1.out.cells.2.2.2.1⟩ | exact ⟨H2.out.2.1, H2.out.2.2.1, H2.out.2.2.2.2.1⟩)
  (first
   |(go_at_call 25; refine (q44 H.out (by first | exact jo _ _ | exact (jo _ _).drew) HS.out.1 HS.out.2).mono ?_; rintro e w1 ⟨rfl, c', h1⟩; have H1 := Lib.hid h1; clear h1)
   |(go_at_call 24; refine (qwb H.out H1.out (by first | exact jo _ _ | exact (jo _ _).drew) HS.out.2).mono ?_; rintro e w2 ⟨rfl, h2⟩; have H2 := Lib.hid h2; clear h2))
 go_wp2
 exact ⟨rfl, rfl, H2.out.1⟩
end
section
variable {x : Nat → Value} {w w1 : World} {Q : Exit → Act → World → Prop} {o : OpV} {W ob pb k n0 n : Nat} {cs : List Cst} {c : Cst}
theorem qbb.idle (h : qbb n0 w W n cs ob o) (hb : But (fun _ => False) w w1) : qbb n0 w1 W n cs ob o := ⟨h.law.idle hb, h.ev, (hb.keep ob (zx h.op).1 id).trans h.op, h.oo⟩
theorem SwW.idle (h : SwW n0 w W n cs ob pb k o c) (hb : But (fun _ => False) w w1) : SwW n0 w1 W n cs ob pb k o c := ⟨h.st.idle hb, (hb.keep pb (zx h.pr).1 id).trans h.pr, h.ck, h.po⟩
theorem je.pre {w' : World} (h : je n0 w1 W n cs w') (hb : But (fun b => n0 ≤ b) w w1) : je n0 w W n cs w' := by
 obtain ⟨n', cs', h1, h2, h3, h4, h5⟩ := h
 exact ⟨n', cs', h1, h2, h3, h4, hb.trans h5⟩
theorem q29 (hob : x 3 = .pointer (some ⟨ob, 0, none⟩)) (hpb : x 9 = .pointer (some ⟨pb, 0, none⟩)) (h : SwW n0 w W n cs ob pb k o c) (hs : o.s.size ≤ maxLen) : Code.wp Tryz.prog q28 (qgu (je n0 w W n cs)) ⟨SS x, []⟩ w := by
 obtain ⟨a1, a2, a3, a4, a5, a6⟩ := h.cells
 have H := Lib.hid h
 have HS := Lib.hid hs
 clear h hs a3 a5 a6
 obtain ⟨x, rfl⟩ := ql hob
 obtain ⟨x, rfl⟩ := ql (x := x) (j := 9) (v := .pointer (some ⟨pb, 0, none⟩)) hpb
 clear hob hpb
 have HE := Lib.hid H.out.e
 obtain ⟨gs, hg⟩ : ∃ gs, sv (qqo c.s.kv o.s.data.toList) = .string gs := ⟨_, rfl⟩
 obtain ⟨ge, hge⟩ : ∃ ge, qqn c.s.kv o.s.data.toList = ge := ⟨_, rfl⟩
 have HG := Lib.hid (And.intro hg hge)
 clear hg hge
 unfold q28 tK4 tK3 tK2 tM tB SS
 simp only [Tryz.f15, Option.getD, hd1, tl1, c1, c2, blk, upd, Nat.reduceEqDiff, if_true, if_false]
 go_wp2_with (first
  |(go_at_call 19; refine (q1g (H.out.cst.p.clu H.out.ok.len) o.s HS.out).mono ?_; rintro e w1 ⟨rfl, hb1⟩; have H1 := Lib.hid (H.out.below hb1); obtain ⟨a1, a2, a3, a4, a5, a6⟩ := H1.out.cells; rw [HG.out.1, HG.out.2]; have HB1 := Lib.hid hb1; clear hb1 a3 a5 a6)
  |(go_at_call 26; refine (q6d o.s H1.out.okt.len H1.out.okt.ris H1.out.cst.m.mdl).mono ?_; rintro e w2 ⟨rfl, hb2⟩; rw [← HE.out, HG.out.1, HG.out.2]; have HB2 := Lib.hid hb2; clear hb2))
 exact ⟨rfl, rfl, H.out.st.law.refl' H.out.st.ev (HB1.out.trans (HB2.out.mono HB1.out.size))⟩
end
section
variable {x : Nat → Value} {w w1 w2 : World} {Q : Exit → Act → World → Prop} {o : OpV} {W ob pb k n0 n base : Nat} {cs : List Cst} {c : Cst} {v : Value} {l : KV}
def Low (w : World) (W : Nat) (cs : List Cst) (base : Nat) : Prop := (∀ c ∈ cs, ∀ b, c.own b → b < base) ∧ ∀ S, w.cell? ⟨W, 2, none⟩ = some S → ∀ g, qad w S g → g < base
theorem jr.low (h : jr n0 w W n cs) : Low w W cs w.heap.size := ⟨fun c hc b hb => ((h.each c hc).lo b hb).2, fun S hS g hg => by
 obtain ⟨CS, S', m, bs, hw⟩ := h.b
 rw [hw.ls.cell.1] at hS
 cases hS
 exact hw.qj1 hg⟩
theorem Low.idle (h : Low w W cs base) (hl : jr n0 w W n cs) (hb : But (fun _ => False) w w1) : Low w1 W cs base := ⟨h.1, fun S hS g hg => by
 obtain ⟨CS, S', m, bs, hw⟩ := hl.b
 obtain ⟨c1, _, c3⟩ := hw.ls.cell
 have e : w1.cell? ⟨W, 2, none⟩ = w.cell? ⟨W, 2, none⟩ := xcb (hb.keep W c3 id)
 rw [e, c1] at hS
 cases hS
 obtain ⟨xs, hx⟩ := hw.ls.row
 refine h.2 _ c1 g ?_
 unfold qad at hg ⊢
 rw [x9 fun q hq => hb.keep q (hx.lt q hq).2 id] at hg
 exact hg⟩
theorem qxz (h : jr n0 w W n cs) (hn : n ≤ 4398046511103) (hr : w.ownsRow base 74 2 v l.length (flat l)) (hl : l.length ≤ 1073741820) (hb : n0 ≤ base) (hbs : base ≤ w.heap.size) (hlow : Low w W cs base) :
  Calls Tryz.prog 30 #[.pointer (some ⟨W, 0, none⟩), v] w fun e w' => (e = .returned (.tuple #[])) ∧ jr n0 w' W (n + 1) cs ∧ But (fun b => n0 ≤ b) w w' := by
 obtain ⟨CS, S, m, bs, hw⟩ := h.b
 have hmn : m ≤ 4398046511103 := by have := hw.le.1; omega
 have hO : ∀ g', CS.out g' → g' < base := fun g' ho => by
  rw [hw.out] at ho
  obtain ⟨c, hc, hcb⟩ := ho
  exact hlow.1 c hc g' hcb
 have key : ∀ w', (∃ S', qbw n0 w' W CS S' (m + 1) ∧ ∀ g, S'.ownBlock = some g → S.ownBlock = some g ∨ w.heap.size ≤ g) → But (qgt W S v) w w' → jr n0 w' W (n + 1) cs ∧ But (fun b => n0 ≤ b) w w' := fun w' h1 h2 => by
  refine ⟨h.ja0 hw h2 hr (fun c hc b hcb => hlow.1 c hc b hcb) h1, h2.mono fun b hb' => ?_⟩
  rcases hb' with e | e | e
  ·subst e; exact h.lo
  ·obtain ⟨xs, hx⟩ := hw.ls.row
   exact (hx.lt b e).1
  ·exact xlt hb (hr.lt b e).1
 rcases hr.2 with ⟨e, hz⟩ | ⟨g, cap, cur, e, _⟩
 ·subst e
  exact (qxy hw.ls hmn h.qig fun g' ho => xll (hO g' ho) hbs).mono fun e w' ⟨h1, h2, h3⟩ => ⟨h1, key w' h2 h3⟩
 ·subst e
  have hnew : ∀ g', qad w S g' → g' ≠ g := fun g' hg' e => by
   have h1 := hlow.2 S hw.ls.cell.1 g' hg'
   have h2 := (hr.lt g rfl).1
   omega
  exact (qt4 hw.ls hmn hr hl h.qig hnew hO).mono fun e w' ⟨h1, h2, h3⟩ => ⟨h1, key w' h2 h3⟩
def qmm (w : World) (c : Cst) (o : OpV) (l : KV) (er : Int) : Prop := Calls Tryz.prog 28 #[.pointer (some ⟨c.B.ml, 0, none⟩), .string o.s, .string o.t, .int .i64 o.b] w fun e w' => ∃ v' b', e = .returned (.tuple #[v', .int .i64 er]) ∧ w'.ownsRow b' 74 2 v' l.length (flat l) ∧ Below w.heap.size w w'
theorem qzq {er : Int} (hW : x 0 = .pointer (some ⟨W, 0, none⟩)) (hob : x 3 = .pointer (some ⟨ob, 0, none⟩)) (hpb : x 9 = .pointer (some ⟨pb, 0, none⟩)) (hv : x 14 = v) (her : x 15 = .int .i64 er) (h : SwW n0 w W n cs ob pb k o c) (hn : n ≤ 4398046511103)
  (hr : w.ownsRow base 74 2 v l.length (flat l)) (hl : l.length ≤ 1073741820) (hb : n0 ≤ base) (hbs : base ≤ w.heap.size) (hlow : Low w W cs base) (hd : qmm w c o l er) : Code.wp Tryz.prog (tl1 qa3) (qgu (je n0 w W n cs)) ⟨SS x, []⟩ w := by
 obtain ⟨a1, a2, a3, a4, a5, a6⟩ := h.cells
 have H := Lib.hid h
 have HR := Lib.hid hr
 have HN := Lib.hid (And.intro hn (And.intro hl (And.intro hb (And.intro hlow hd))))
 have HBS := Lib.hid hbs
 clear h hr hn hl hb hlow hd hbs a1 a6
 obtain ⟨x, rfl⟩ := ql hW
 obtain ⟨x, rfl⟩ := ql (x := x) (j := 3) (v := .pointer (some ⟨ob, 0, none⟩)) hob
 obtain ⟨x, rfl⟩ := ql (x := x) (j := 9) (v := .pointer (some ⟨pb, 0, none⟩)) hpb
 obtain ⟨x, rfl⟩ := ql (x := x) (j := 14) (v := v) hv
 obtain ⟨x, rfl⟩ := ql (x := x) (j := 15) (v := .int .i64 er) her
 clear hW hob hpb hv her
 unfold qa3 tK5 tK4 tK3 tK2 tM tB SS
 simp only [Tryz.f15, Option.getD, hd1, tl1, c1, c2, blk, upd, Nat.reduceEqDiff, if_true, if_false]
 go_wp2_with (first
  |(go_at_call 28; refine HN.out.2.2.2.2.mono ?_; rintro e w1 ⟨v', b', rfl, hr1, hb1⟩; have H1 := Lib.hid (H.out.below hb1); have HR1 := Lib.hid hr1; have HB1 := Lib.hid hb1; clear hb1 hr1)
  |(go_at_call 29; refine (q6l (qj HR.out fun g hg => HB1.out.block g (HR.out.lt g hg).2) HR1.out (by have := HN.out.2.1; omega)).mono ?_; rintro e w2 ⟨rfl, hb2⟩; have H2 := Lib.hid (H1.out.below hb2); have HB2 := Lib.hid (HB1.out.trans (hb2.mono HB1.out.size)); clear hb2)
  |(go_at_call 30; refine (qxz H2.out.st.law HN.out.1 (qj HR.out fun g hg => HB2.out.block g (HR.out.lt g hg).2) HN.out.2.1 HN.out.2.2.1 (xlt HBS.out HB2.out.size) (HN.out.2.2.2.1.idle H.out.st.law (But.of_below HB2.out))).mono ?_; rintro e w3 ⟨rfl, h3⟩; have H3 := Lib.hid h3; clear h3))
 exact ⟨rfl, rfl, n + 1, cs, H3.out.1, fun c hc => ⟨(H.out.st.ev c hc).1, (H.out.st.ev c hc).2.up (Nat.le_succ n)⟩, jy _, by omega, (But.of_below HB2.out).trans H3.out.2⟩
end
structure FrX (W ob pb : Nat) (k : Int) (x : Nat → Value) : Prop where
 w : x 0 = .pointer (some ⟨W, 0, none⟩)
 o : x 3 = .pointer (some ⟨ob, 0, none⟩)
 p : x 9 = .pointer (some ⟨pb, 0, none⟩)
 k : x 84 = .int .i64 k
section
variable {x : Nat → Value} {w w1 w2 : World} {Q : Exit → Act → World → Prop} {o : OpV} {W ob pb k n0 n base : Nat} {cs : List Cst} {c : Cst} {v : Value} {l : KV} {kd : Int}
theorem q3e (hW : x 0 = .pointer (some ⟨W, 0, none⟩)) (hob : x 3 = .pointer (some ⟨ob, 0, none⟩)) (hpb : x 9 = .pointer (some ⟨pb, 0, none⟩)) (h : SwW n0 w W n cs ob pb k o c) : Code.wp Tryz.prog q3d (Jn fun x w' => FrX W ob pb o.k x ∧ w' = w) ⟨SS x, []⟩ w := by
 have c0 : w.cell? ⟨ob, 0, none⟩ = some (.int .i64 o.k) := by simp [World.cell?, h.st.op, OpV.cells]
 clear h
 obtain ⟨x, rfl⟩ := ql hW
 obtain ⟨x, rfl⟩ := ql (x := x) (j := 3) (v := .pointer (some ⟨ob, 0, none⟩)) hob
 obtain ⟨x, rfl⟩ := ql (x := x) (j := 9) (v := .pointer (some ⟨pb, 0, none⟩)) hpb
 clear hW hob hpb
 unfold q3d tM tB SS
 simp only [Tryz.f15, Option.getD, hd1, tl1, upd, Nat.reduceEqDiff, if_true, if_false]
 go_wp2
 exact jn rfl ⟨⟨rfl, rfl, rfl, rfl⟩, rfl⟩
theorem FrX.lay (h : FrX W ob pb kd x) : ∃ y, x = upd (upd (upd (upd y 84 (.int .i64 kd)) 9 (.pointer (some ⟨pb, 0, none⟩))) 3 (.pointer (some ⟨ob, 0, none⟩))) 0 (.pointer (some ⟨W, 0, none⟩)) := by
 obtain ⟨x, rfl⟩ := ql h.w
 obtain ⟨x, rfl⟩ := ql (x := x) (j := 3) (v := .pointer (some ⟨ob, 0, none⟩)) h.o
 obtain ⟨x, rfl⟩ := ql (x := x) (j := 9) (v := .pointer (some ⟨pb, 0, none⟩)) h.p
 obtain ⟨x, rfl⟩ := ql (x := x) (j := 84) (v := .int .i64 kd) h.k
 exact ⟨x, rfl⟩
theorem sw2 (h : FrX W ob pb kd x) : Code.wp Tryz.prog (hd1 tK2) (Jn fun x w' => FrX W ob pb kd x ∧ x 85 = .bool (kd == 2) ∧ w' = w) ⟨SS x, []⟩ w := by
 obtain ⟨x, rfl⟩ := h.lay
 clear h
 unfold tK2 tM tB SS
 simp only [Tryz.f15, Option.getD, hd1, tl1, blk, upd, Nat.reduceEqDiff, if_true, if_false]
 go_wp2
 exact jn rfl ⟨⟨rfl, rfl, rfl, rfl⟩, rfl, rfl⟩
theorem sw3 (h : FrX W ob pb kd x) : Code.wp Tryz.prog (hd1 tK3) (Jn fun x w' => FrX W ob pb kd x ∧ x 103 = .bool (kd == 3) ∧ w' = w) ⟨SS x, []⟩ w := by
 obtain ⟨x, rfl⟩ := h.lay
 clear h
 unfold tK3 tK2 tM tB SS
 simp only [Tryz.f15, Option.getD, hd1, tl1, c2, blk, upd, Nat.reduceEqDiff, if_true, if_false]
 go_wp2
 exact jn rfl ⟨⟨rfl, rfl, rfl, rfl⟩, rfl, rfl⟩
theorem sw4 (h : FrX W ob pb kd x) : Code.wp Tryz.prog (hd1 tK4) (Jn fun x w' => FrX W ob pb kd x ∧ x 117 = .bool (kd == 4) ∧ w' = w) ⟨SS x, []⟩ w := by
 obtain ⟨x, rfl⟩ := h.lay
 clear h
 unfold tK4 tK3 tK2 tM tB SS
 simp only [Tryz.f15, Option.getD, hd1, tl1, c2, blk, upd, Nat.reduceEqDiff, if_true, if_false]
 go_wp2
 exact jn rfl ⟨⟨rfl, rfl, rfl, rfl⟩, rfl, rfl⟩
theorem sw5 (h : FrX W ob pb kd x) : Code.wp Tryz.prog (hd1 tK5) (Jn fun x w' => FrX W ob pb kd x ∧ x 143 = .bool (kd == 5) ∧ w' = w) ⟨SS x, []⟩ w := by
 obtain ⟨x, rfl⟩ := h.lay
 clear h
 unfold tK5 tK4 tK3 tK2 tM tB SS
 simp only [Tryz.f15, Option.getD, hd1, tl1, c2, blk, upd, Nat.reduceEqDiff, if_true, if_false]
 go_wp2
 exact jn rfl ⟨⟨rfl, rfl, rfl, rfl⟩, rfl, rfl⟩
theorem sw6 (h : FrX W ob pb kd x) : Code.wp Tryz.prog (hd1 tK6) (Jn fun x w' => FrX W ob pb kd x ∧ x 181 = .bool (kd == 6) ∧ w' = w) ⟨SS x, []⟩ w := by
 obtain ⟨x, rfl⟩ := h.lay
 clear h
 unfold tK6 tK5 tK4 tK3 tK2 tM tB SS
 simp only [Tryz.f15, Option.getD, hd1, tl1, c2, blk, upd, Nat.reduceEqDiff, if_true, if_false]
 go_wp2
 exact jn rfl ⟨⟨rfl, rfl, rfl, rfl⟩, rfl, rfl⟩
theorem sw7 (h : FrX W ob pb kd x) : Code.wp Tryz.prog (hd1 tK7) (Jn fun x w' => FrX W ob pb kd x ∧ x 198 = .bool (kd == 7) ∧ w' = w) ⟨SS x, []⟩ w := by
 obtain ⟨x, rfl⟩ := h.lay
 clear h
 unfold tK7 tK6 tK5 tK4 tK3 tK2 tM tB SS
 simp only [Tryz.f15, Option.getD, hd1, tl1, c2, blk, upd, Nat.reduceEqDiff, if_true, if_false]
 go_wp2
 exact jn rfl ⟨⟨rfl, rfl, rfl, rfl⟩, rfl, rfl⟩
theorem sw8 (h : FrX W ob pb kd x) : Code.wp Tryz.prog (hd1 tK8) (Jn fun x w' => FrX W ob pb kd x ∧ x 211 = .bool (kd == 8) ∧ w' = w) ⟨SS x, []⟩ w := by
 obtain ⟨x, rfl⟩ := h.lay
 clear h
 unfold tK8 tK7 tK6 tK5 tK4 tK3 tK2 tM tB SS
 simp only [Tryz.f15, Option.getD, hd1, tl1, c2, blk, upd, Nat.reduceEqDiff, if_true, if_false]
 go_wp2
 exact jn rfl ⟨⟨rfl, rfl, rfl, rfl⟩, rfl, rfl⟩
theorem q6m {wp : Value} {p q : Value} (h9 : o.k ≠ 9) (h10 : o.k ≠ 10) (h11 : o.k ≠ 11) (h12 : o.k ≠ 12) : Calls Tryz.prog 37 #[wp, .agg #[p, q], .agg o.cells] w fun e w' => e = .returned (.bool true) ∧ Below w.heap.size w w' := by
 have g1 : (o.k == 9) = false := by simpa using h9
 have g2 : (o.k == 10) = false := by simpa using h10
 have g3 : (o.k == 11) = false := by simpa using h11
 have g4 : (o.k == 12) = false := by simpa using h12
 clear h9 h10 h11 h12
 unfold OpV.cells
 go_enter Tryz.func37, Tryz.ntmps37
 go_wp2
 go_ret
 exact ⟨rfl, ((jo _ _).alloc (jy _) _).alloc (by simp) _⟩
theorem q27 (h : FrX W ob pb kd x) (hs : SwW n0 w W n cs ob pb k o c) (h9 : o.k ≠ 9) (h10 : o.k ≠ 10) (h11 : o.k ≠ 11) (h12 : o.k ≠ 12) : Code.wp Tryz.prog (tl1 tM) (qgu (je n0 w W n cs)) ⟨SS x, []⟩ w := by
 obtain ⟨x, rfl⟩ := h.lay
 have HS := Lib.hid hs
 have HK := Lib.hid (And.intro h9 (And.intro h10 (And.intro h11 h12)))
 have p0 : w.heap[pb]? = some (.cells #[.pointer (some ⟨c.A.cl, 0, none⟩), .pointer (some ⟨c.B.ml, 0, none⟩)] 56 (0, 0)) := hs.pr
 have o0 : w.heap[ob]? = some (.cells #[.int .i64 o.k, .int .i64 o.a, .int .i64 o.b, .int .i64 o.c, .int .i64 o.d, .int .i64 o.e, .int .i64 o.f, .string o.s, .string o.t, .string o.u] 30 (0, 0)) := hs.st.op
 obtain ⟨q0, q1, _⟩ := hs.cells
 have r0 : w.cell? ⟨ob, 0, none⟩ = some (.int .i64 o.k) := by simp [World.cell?, o0]
 have r1 : w.cell? ⟨ob, 1, none⟩ = some (.int .i64 o.a) := by simp [World.cell?, o0]
 have r2 : w.cell? ⟨ob, 2, none⟩ = some (.int .i64 o.b) := by simp [World.cell?, o0]
 have r3 : w.cell? ⟨ob, 3, none⟩ = some (.int .i64 o.c) := by simp [World.cell?, o0]
 have r4 : w.cell? ⟨ob, 4, none⟩ = some (.int .i64 o.d) := by simp [World.cell?, o0]
 have r5 : w.cell? ⟨ob, 5, none⟩ = some (.int .i64 o.e) := by simp [World.cell?, o0]
 have r6 : w.cell? ⟨ob, 6, none⟩ = some (.int .i64 o.f) := by simp [World.cell?, o0]
 have r7 : w.cell? ⟨ob, 7, none⟩ = some (.string o.s) := by simp [World.cell?, o0]
 have r8 : w.cell? ⟨ob, 8, none⟩ = some (.string o.t) := by simp [World.cell?, o0]
 have r9 : w.cell? ⟨ob, 9, none⟩ = some (.string o.u) := by simp [World.cell?, o0]
 clear h hs h9 h10 h11 h12 p0 o0
 unfold tM tB SS
 simp only [Tryz.f15, Option.getD, hd1, tl1, upd, Nat.reduceEqDiff, if_true, if_false]
 go_wp2_with (go_at_call 37; refine (q6m (o := o) HK.out.1 HK.out.2.1 HK.out.2.2.1 HK.out.2.2.2).mono ?_; rintro e w1 ⟨rfl, hb1⟩; have HB1 := Lib.hid hb1; clear hb1)
 exact ⟨rfl, rfl, HS.out.st.law.refl' HS.out.st.ev HB1.out⟩
end
end
end Go.Proofs.YtkpekiajdlolnabGreat
namespace Go.Proofs.YtkpekiajdlolnabGreat.Ph
open Go.Conc Go.ConcN Go.RowKit Go.Maps Go Sim
theorem qpn (L : Nat → KV) (f : Bs × Bs → Bool) (most : Nat) : ∀ i, qbr most (fun i => ((L i).filter f).length) (fun i => flat ((L i).filter f)) i = (((cat L f i).take most).length, flat ((cat L f i).take most))
 |0 => by simp [qbr, cat, qbk]
 |i + 1 => by
  simp only [qbr]
  rw [qpn L f most i]
  simp only [cat]
  have e0 : most - ((cat L f i).take most).length = most - (cat L f i).length := by rw [List.length_take]; omega
  have e1 : ∀ j, ((L i).filter f).take (min ((L i).filter f).length j) = ((L i).filter f).take j := fun j => by
   rw [Nat.min_comm, ← List.take_take, List.take_length]
  rw [e0, qhv, e1, List.take_append, qb9]
  congr 1
  rw [List.length_append, List.length_take (i := most - _)]
  omega
theorem qr9 {F : FuncId → Prop} {ρ : Rel} : ∀ {l : List MapEntry}, (∀ x ∈ l, ER F ρ x x) → EsR F ρ l l
 | [], _ => .nil
 |x :: l, h => .cons (h x (.head _)) (qr9 fun y hy => h y (.tail _ hy))
theorem q5s {w : World} {mb : Nat} {L : KV} (h : j4 w mb L) : ∃ p : Array MapEntry × Nat, w.heap[mb]? = some (.map p.1 p.2) ∧ (∀ (F : FuncId → Prop) ρ, EsR F ρ p.1.toList p.1.toList) ∧ ∀ wl : World, wl.heap[mb]? = some (.map p.1 p.2) → j4 wl mb L := by
 obtain ⟨es, ck, h1, h2, h3⟩ := h
 refine ⟨(es, ck), h1, fun F ρ => qr9 fun x hx => ?_, fun wl hwl => ⟨es, ck, hwl, h2, h3⟩⟩
 obtain ⟨y, hy⟩ := h2.reads x hx
 have hkey := WideElems.rd_key hy
 obtain ⟨s, hs⟩ := Maps.keyOf_string_inv Tryz.underlying9 hkey
 obtain ⟨ky, vl, bn⟩ := x
 subst hs
 refine ⟨.string s, ?_, rfl⟩
 unfold WideElems.rd at hy
 simp only [Option.bind_eq_some_iff, Option.map_eq_some_iff] at hy
 obtain ⟨_, _, z, hz, _⟩ := hy
 cases vl with
 |agg cs =>
  simp only [Rv] at hz
  split at hz
  ·rename_i s' e
   obtain ⟨l⟩ := cs
   subst e
   exact .agg (.cons (.string s') .nil)
  ·cases hz
 |_ => cases hz
section
variable {N : Blocks} {kv : List Value} {w : World} {cl : Nat} {db mb : Nat → Nat} {L : Nat → KV} {s t : ByteArray} {most : Nat}
theorem qy6 {w : World} {b : Nat} {v : Value} {l : KV} (h : yh w b v l) : qe0 (fun _ => True) w v l.length (flat l) := by
 refine ⟨h.1.1, h.1.2.imp id ?_⟩
 rintro ⟨g, cap, cur, rfl, _, h2, h3, h4, h5, h6⟩
 obtain ⟨cur', ty', k1, k2⟩ := h.2 g rfl
 rw [h2] at k1
 cases k1
 exact ⟨g, cap, cur, rfl, trivial, h2, h3, h4, h6, k2⟩
theorem qze (h : Clu w cl db mb L) (hdb : ∀ i, i < 4 → w.heap[db i]? = some (.cells #[.map (some (mb i))] 142 (0, 0))) (hris : ∀ i, i < 4 → zi (L i)) (hkey : ∀ i, i < 4 → ∀ p ∈ L i, p.1.length ≤ 8) (qj2 : most ≤ 9223372036854775807) (hN : ∀ b, N b → b < w.heap.size) :
  yu N kv fS #[.pointer (some ⟨cl, 0, none⟩), .string s, .string t, .int .i64 most] w fun v w' =>
   ∃ ov, v = .tuple #[ov, .int .i64 0] ∧ w'.ownsRow w.heap.size 74 2 ov ((cat L (inB s.data.toList t.data.toList) 4).take most).length (flat ((cat L (inB s.data.toList t.data.toList) 4).take most)) ∧ (∀ b, b < w.heap.size → w'.heap[b]? = w.heap[b]?) ∧ w.heap.size ≤ w'.heap.size ∧ w'.os = w.os ∧ w'.output = w.output := by
 have hc : ∀ i, ∃ p : Array MapEntry × Nat, i < 4 → w.heap[mb i]? = some (.map p.1 p.2) ∧ (∀ (F : FuncId → Prop) ρ, EsR F ρ p.1.toList p.1.toList) ∧ ∀ wl : World, wl.heap[mb i]? = some (.map p.1 p.2) → j4 wl (mb i) (L i) := fun i => by
  by_cases hi : i < 4
  ·obtain ⟨mv, hpi⟩ := h.p i hi
   obtain ⟨p, hp⟩ := q5s hpi.l
   exact ⟨p, fun _ => hp⟩
  ·exact ⟨(#[], 0), fun hi' => absurd hi' hi⟩
 obtain ⟨es, hes⟩ := Classical.axiomOfChoice hc
 have ht := qpn L (inB s.data.toList t.data.toList) most 4
 have := qrm (N := N) (kv := kv) (cl := cl) (db := db) (mb := mb) (es := fun i => (es i).1) (ck := fun i => (es i).2) (s := s) (t := t) (m := fun i => ((L i).filter (inB s.data.toList t.data.toList)).length) (rows := fun i => flat ((L i).filter (inB s.data.toList t.data.toList))) (w := w) (most := most)
  ⟨fun i hi => (h.p i hi).choose_spec.d, hdb, fun i hi => (hes i hi).1⟩ (fun i hi => (hes i hi).2.1) (fun i hi wl hd hm => by
   refine (qsr (w := wl) (db := db i) (mb := mb i) (L := L i) (by simp [World.cell?, hd]) ((hes i hi).2.2 wl hm) (hris i hi) (h.len i hi) (fun p hp => by have := hkey i hi p hp; unfold maxLen; omega) s t).mono ?_
   rintro e w' ⟨v, rfl, hr, _⟩
   exact qy6 hr) (fun i hi => by
   have h1 := h.len i hi
   have h2 : ((L i).filter (inB s.data.toList t.data.toList)).length ≤ (L i).length := List.length_filter_le _ _
   show ((L i).filter (inB s.data.toList t.data.toList)).length ≤ _
   omega) qj2 hN
 rw [ht] at this
 exact this
end
end Go.Proofs.YtkpekiajdlolnabGreat.Ph
