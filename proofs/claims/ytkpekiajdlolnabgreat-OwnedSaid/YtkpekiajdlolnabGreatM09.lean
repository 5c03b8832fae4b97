/-
  PROVED IN PARTS: text 9 of 10 of the carrying ground of the claim (see each part's own remark). Conditions: those that each theorem names.
-/
import Derived.Test.YtkpekiajdlolnabGreatM08
import Derived.Deep.WholeRow
import Derived.Deep.RegionHeld3
import Derived.Test.YtkpekiajdlolnabGreatM07
import Derived.Sort.MapsRangeIn
set_option linter.unusedVariables false
set_option linter.unusedSimpArgs false

/-
  BLIND FRAMES, third text: operations on the script and on a step's own variable.
-/
namespace Go.Proofs.YtkpekiajdlolnabGreat.Ph
open Go.Conc Go.ConcN Go.RowKit Go.Maps Go.Conc.Lib Go Go.Proofs.YtkpekiajdlolnabGreat Go.Proofs.YtkpekiajdlolnabGreat.Sim

section
variable {e : Operand → Value} {o : Oper} {a b c : Operand} {v : Value} {m n : Int} {t u : Bool} {ty : TypeId} {p : Option Addr} {l cp : Nat}
theorem Pure.lenL (h : o.op = .call { callee := .builtin .len, args := #[a], argTypes := #[22] }) (ha : e a = .slice p l cp) : Pure e o (.int .i64 l) := fun w => by
  have hu := Tryz.underlying22
  unfold execOp; constructor <;> simp [go_sem, h, ha, hu, resolve, invoke, builtin]
theorem Pure.lenS {s : ByteArray} (h : o.op = .call { callee := .builtin .len, args := #[a], argTypes := #[9] }) (ha : e a = .string s) : Pure e o (.int .i64 s.size) := fun w => by
  have hu := Tryz.underlying9
  unfold execOp; constructor <;> simp [go_sem, h, ha, hu, resolve, invoke, builtin, Builtin.len_]
theorem Pure.idx {g o0 i : Nat} (h : o.op = .indexAddr 22 a b) (ha : e a = .slice (some ⟨g, o0, none⟩) l cp) (hb : e b = .int .i64 i) (hi : i < l) : Pure e o (.pointer (some ⟨g, o0 + i * 10, none⟩)) := fun w => by
  have hu := Tryz.underlying22
  have h1 : (0 : Int) ≤ (i : Int) := by omega
  have h2 : (i : Int) < (l : Int) := by omega
  have hadd : (⟨g, o0, none⟩ : Addr).add (i * 10) = ⟨g, o0 + i * 10, none⟩ := Addr.add_lit ..
  unfold execOp; constructor <;> simp [go_sem, h, ha, hb, hu, h1, h2, hadd]
theorem Pure.fOp (f : Nat) (hf : f < 10) {g : Nat} (h : o.op = .fieldAddr 30 a f) (ha : e a = .pointer (some ⟨g, 0, none⟩)) : Pure e o (.pointer (some ⟨g, f, none⟩)) := fun w => by
  have hu := Tryz.underlying30
  have hf' : f = 0 ∨ f = 1 ∨ f = 2 ∨ f = 3 ∨ f = 4 ∨ f = 5 ∨ f = 6 ∨ f = 7 ∨ f = 8 ∨ f = 9 := by omega
  unfold execOp
  rcases hf' with rfl | rfl | rfl | rfl | rfl | rfl | rfl | rfl | rfl | rfl <;> constructor <;> simp [go_sem, h, ha, hu]
theorem Pure.build0 (h : o.op = .build 36 #[]) : Pure e o (.agg #[.slice none 0 0, .slice none 0 0, .slice none 0 0, .bool false]) := fun w => by
  unfold execOp
  simp only [h]
  constructor
  · kernel_rfl
  · kernel_rfl
end
theorem VR.move {F : FuncId → Prop} {ρ : Rel} {g o1 o2 : Nat} (h : VR F ρ (.pointer (some ⟨g, o1, none⟩)) (.pointer (some ⟨g, o1, none⟩))) : VR F ρ (.pointer (some ⟨g, o2, none⟩)) (.pointer (some ⟨g, o2, none⟩)) := by
  cases h with
  | ptr r => exact .ptr r
section
variable {N : Blocks} {kv : List Value} {cs cs1 : List Frame} {w : World} {Z : Frame → World → Prop} {b : Frame} {k : List Item} {n i j : Nat} {x : Nat → Value} {ops : Array Oper} {td : List Nat} {o : Oper} {ty : TypeId} {a : Nat} {g f : Nat}
/-- a field of what is kept is looked at. -/
theorem CGo.bload {v : Value} (hbl : blG b.fn = true) (hk : b.kind ≠ .early) (ho : ops[i]? = some o) (hop : o.op = .load ty (.tmp a)) (hd : o.dst = some j) (hw : Region.wanted o (yielded ops (lay n x)) = true) (ha : a < n) (hx : x a = .pointer (some ⟨g, f, none⟩))
    (hkv : .pointer (some ⟨g, 0, none⟩) ∈ kv) (hA : ∀ w, (isAgg ty).run Tryz.prog w = .ok false w) (hc : w.cell? ⟨g, f, none⟩ = some v)
    (nx : CGo N kv cs (b.at ⟨lay n (upd x j v), []⟩ (.inRegion ops td :: k)) w cs1 Z) : CGo N kv cs (b.at ⟨lay n x, []⟩ (.inRegion ops (i :: td) :: k)) w cs1 Z := by
  have hok : okOp XG.P XG.P' fb true o = true := by unfold okOp; rw [hop]; rfl
  have he : (Act.mk (lay n x) []).eval (.tmp a) = ek [(a, .pointer (some ⟨g, f, none⟩))] (.tmp a) := by rw [show (Act.mk (lay n x) []).eval (.tmp a) = x a from evx_tmp ha, hx]; simp [ek]
  refine CGo.blind0 (e := ek [(a, .pointer (some ⟨g, f, none⟩))]) (R := fun v' w1 => v' = v ∧ Same w w1) hbl hk ho hok hw (by unfold execOp; simp only [hop]; rw [he]) (fun ρ hK => ek_ok fun p hp => ?_) (fun wc s => ?_) ?_
  · rw [List.mem_singleton] at hp; subst hp; exact VR.move (hK _ hkv)
  · refine ⟨v, wc, ?_, ⟨rfl, s⟩, Nat.le_refl _⟩
    have hc' : wc.cell? ⟨g, f, none⟩ = some v := (World.cell?_of_block (by rw [s.heap])).trans hc
    show (execOp _ o).run Tryz.prog wc = _
    unfold execOp
    simp [go_sem, hop, ek, hA, hc']
  · rintro _ w1 ⟨rfl, s⟩
    rw [hd]
    show CGo N kv cs (b.at ⟨(lay n x).setIfInBounds j _, []⟩ _) w1 cs1 Z
    rw [lay_set]
    exact nx.same s
/-- all of it. -/
theorem CGo.bloadA {l : List Value} (hbl : blG b.fn = true) (hk : b.kind ≠ .early) (ho : ops[i]? = some o) (hop : o.op = .load ty (.tmp a)) (hd : o.dst = some j) (hw : Region.wanted o (yielded ops (lay n x)) = true) (ha : a < n) (hx : x a = .pointer (some ⟨g, 0, none⟩))
    (hkv : .pointer (some ⟨g, 0, none⟩) ∈ kv) (hA : ∀ w es, (isAgg ty).runT Tryz.prog w es = (.ok true w, es)) (hS : ∀ w es, (sizeOf ty).runT Tryz.prog w es = (.ok l.length w, es)) (hc : ∀ j v, l[j]? = some v → w.cell? ⟨g, j, none⟩ = some v)
    (nx : CGo N kv cs (b.at ⟨lay n (upd x j (.agg l.toArray)), []⟩ (.inRegion ops td :: k)) w cs1 Z) : CGo N kv cs (b.at ⟨lay n x, []⟩ (.inRegion ops (i :: td) :: k)) w cs1 Z := by
  have hok : okOp XG.P XG.P' fb true o = true := by unfold okOp; rw [hop]; rfl
  have he : (Act.mk (lay n x) []).eval (.tmp a) = ek [(a, .pointer (some ⟨g, 0, none⟩))] (.tmp a) := by rw [show (Act.mk (lay n x) []).eval (.tmp a) = x a from evx_tmp ha, hx]; simp [ek]
  refine CGo.blind0 (e := ek [(a, .pointer (some ⟨g, 0, none⟩))]) (R := fun v' w1 => v' = .agg l.toArray ∧ Same w w1) hbl hk ho hok hw (by unfold execOp; simp only [hop]; rw [he]) (fun ρ hK => ek_ok fun p hp => ?_) (fun wc s => ?_) ?_
  · rw [List.mem_singleton] at hp; subst hp; exact hK _ hkv
  · refine ⟨.agg l.toArray, wc, ?_, ⟨rfl, s⟩, Nat.le_refl _⟩
    obtain ⟨es1, h1, _⟩ := runT_loadAt (P := Tryz.prog) (w := wc) (a := ⟨g, 0, none⟩) (ty := ty) l (hA _) (hS _) fun j v hj => by
      rw [Addr.add_lit, Nat.zero_add]
      exact (World.cell?_of_block (by rw [s.heap])).trans (hc j v hj)
    have h2 : (Instr.loadAt ty (.pointer (some ⟨g, 0, none⟩))).run Tryz.prog wc = .ok (.agg l.toArray) wc := by
      rw [← Sem.runT_fst Tryz.prog _ _ #[], h1]
    show (execOp _ o).run Tryz.prog wc = _
    unfold execOp
    simp only [hop]
    rw [show ek [(a, .pointer (some ⟨g, 0, none⟩))] (.tmp a) = .pointer (some ⟨g, 0, none⟩) by simp [ek]]
    simp only [Sem.run_bind, h2, Result.andThen_ok, Sem.run_pure]
  · rintro _ w1 ⟨rfl, s⟩
    rw [hd]
    show CGo N kv cs (b.at ⟨(lay n x).setIfInBounds j _, []⟩ _) w1 cs1 Z
    rw [lay_set]
    exact nx.same s
/-- a new variable. -/
theorem CGo.balloc {z : Value} (hbl : blG b.fn = true) (hk : b.kind ≠ .early) (ho : ops[i]? = some o) (hop : o.op = .alloc ty) (hd : o.dst = some j) (hw : Region.wanted o (yielded ops (lay n x)) = true) (hok : okOp XG.P XG.P' fb true o = true) (hz : ∀ w, (zeroValue ty).run Tryz.prog w = .ok z w)
    (nx : CGo N (.pointer (some ⟨w.heap.size, 0, none⟩) :: kv) cs (b.at ⟨lay n (upd x j (.pointer (some ⟨w.heap.size, 0, none⟩))), []⟩ (.inRegion ops td :: k)) (w.alloc (.cells z.cells ty)) cs1 Z) : CGo N kv cs (b.at ⟨lay n x, []⟩ (.inRegion ops (i :: td) :: k)) w cs1 Z := by
  refine CGo.blind (e := ek []) (R := fun v' w1 => v' = .pointer (some ⟨w.heap.size, 0, none⟩) ∧ Same (w.alloc (.cells z.cells ty)) w1) hbl hk ho hok hw (by unfold execOp; simp only [hop]) (fun ρ hK => ek_ok fun p hp => (by cases hp)) (fun wc s => ?_) ?_
  · refine ⟨_, wc.alloc (.cells z.cells ty), ?_, ⟨rfl, ⟨?_, s.os, s.output⟩⟩, by simp⟩
    · rw [← s.heap]
      show (execOp _ o).run Tryz.prog wc = _
      unfold execOp
      simp [go_sem, hop, Instr.alloc, hz]
    · show wc.heap.push _ = w.heap.push _
      rw [s.heap]
  · rintro _ w1 ⟨rfl, s⟩
    rw [hd]
    show CGo N _ cs (b.at ⟨(lay n x).setIfInBounds j _, []⟩ _) w1 cs1 Z
    rw [lay_set]
    exact nx.same s
/-- a value is boxed. -/
theorem CGo.bbox {l : List Value} (hbl : blG b.fn = true) (hk : b.kind ≠ .early) (ho : ops[i]? = some o) (hop : o.op = .box ty (.tmp a)) (hd : o.dst = some j) (hw : Region.wanted o (yielded ops (lay n x)) = true) (ha : a < n) (hx : x a = .agg l.toArray) (hl : ∀ ρ, VR XG.F ρ (.agg l.toArray) (.agg l.toArray))
    (nx : CGo N (.pointer (some ⟨w.heap.size, 0, none⟩) :: kv) cs (b.at ⟨lay n (upd x j (.pointer (some ⟨w.heap.size, 0, none⟩))), []⟩ (.inRegion ops td :: k)) (w.alloc (.cells l.toArray ty)) cs1 Z) : CGo N kv cs (b.at ⟨lay n x, []⟩ (.inRegion ops (i :: td) :: k)) w cs1 Z := by
  have hok : okOp XG.P XG.P' fb true o = true := by unfold okOp; rw [hop]; rfl
  have he : (Act.mk (lay n x) []).eval (.tmp a) = ek [(a, .agg l.toArray)] (.tmp a) := by rw [show (Act.mk (lay n x) []).eval (.tmp a) = x a from evx_tmp ha, hx]; simp [ek]
  refine CGo.blind (e := ek [(a, .agg l.toArray)]) (R := fun v' w1 => v' = .pointer (some ⟨w.heap.size, 0, none⟩) ∧ Same (w.alloc (.cells l.toArray ty)) w1) hbl hk ho hok hw (by unfold execOp; simp only [hop]; rw [he]) (fun ρ hK => ek_ok fun p hp => ?_) (fun wc s => ?_) ?_
  · rw [List.mem_singleton] at hp; subst hp; exact hl ρ
  · refine ⟨_, wc.alloc (.cells l.toArray ty), ?_, ⟨rfl, ⟨?_, s.os, s.output⟩⟩, by simp⟩
    · rw [← s.heap]
      show (execOp _ o).run Tryz.prog wc = _
      unfold execOp
      simp [go_sem, hop, Instr.box, ek, Value.cells]
    · show wc.heap.push _ = w.heap.push _
      rw [s.heap]
  · rintro _ w1 ⟨rfl, s⟩
    rw [hd]
    show CGo N _ cs (b.at ⟨(lay n x).setIfInBounds j _, []⟩ _) w1 cs1 Z
    rw [lay_set]
    exact nx.same s
/-- a whole value is laid into the variable that was made last. -/
theorem CGo.bstore {c : Nat} {l z : List Value} {w0 : World} (hbl : blG b.fn = true) (hk : b.kind ≠ .early) (ho : ops[i]? = some o) (hop : o.op = .store ty (.tmp a) (.tmp c)) (hd : o.dst = none) (hw : Region.wanted o (yielded ops (lay n x)) = true) (ha : a < n) (hx : x a = .pointer (some ⟨w0.heap.size, 0, none⟩)) (hcn : c < n) (hxc : x c = .agg l.toArray)
    (hkv : .pointer (some ⟨w0.heap.size, 0, none⟩) ∈ kv) (hl : ∀ ρ, VR XG.F ρ (.agg l.toArray) (.agg l.toArray)) (hw0 : w = w0.alloc (.cells z.toArray ty)) (hi : (Tryz.prog.info? ty).map (·.size) = some l.length) (hz : z.length = l.length) (h1 : l.all (·.oneCell') = true)
    (nx : CGo N kv cs (b.at ⟨lay n x, []⟩ (.inRegion ops td :: k)) (w0.alloc (.cells l.toArray ty)) cs1 Z) : CGo N kv cs (b.at ⟨lay n x, []⟩ (.inRegion ops (i :: td) :: k)) w cs1 Z := by
  have hok : okOp XG.P XG.P' fb true o = true := by unfold okOp; rw [hop]; rfl
  subst hw0
  by_cases hac : a = c
  · subst hac
    rw [hx] at hxc; cases hxc
  have he : (Act.mk (lay n x) []).eval (.tmp a) = ek [(a, .pointer (some ⟨w0.heap.size, 0, none⟩)), (c, .agg l.toArray)] (.tmp a) := by rw [show (Act.mk (lay n x) []).eval (.tmp a) = x a from evx_tmp ha, hx]; simp [ek]
  have hca : (c == a) = false := by simpa using fun e => hac e.symm
  have hec : ek [(a, .pointer (some ⟨w0.heap.size, 0, none⟩)), (c, .agg l.toArray)] (.tmp c) = .agg l.toArray := by simp [ek, List.lookup_cons, hca]
  refine CGo.blindS (e := ek [(a, .pointer (some ⟨w0.heap.size, 0, none⟩)), (c, .agg l.toArray)]) (R := fun w1 => Same (w0.alloc (.cells l.toArray ty)) w1) hbl hk ho hok hw (by unfold execOp; simp only [hop]; rw [he, hec, show (Act.mk (lay n x) []).eval (.tmp c) = .agg l.toArray from (evx_tmp hcn).trans hxc]) (fun ρ hK => ek_ok fun p hp => ?_) (fun wc s => ?_) ?_
  · simp only [List.mem_cons, List.not_mem_nil, or_false] at hp
    rcases hp with rfl | rfl
    · exact hK _ hkv
    · exact hl ρ
  · have hb : wc.heap[w0.heap.size]? = some (.cells z.toArray ty (0, 0)) := by rw [s.heap]; exact heap_alloc_new _ _
    have hst := run_storeVar_row (P := Tryz.prog) wc w0.heap.size ty ty z.toArray l.toArray hb (by simpa using hi) (by simpa using hz) (by simpa using h1)
    refine ⟨wc.setRow w0.heap.size l.toArray, ?_, ⟨?_, ?_, ?_⟩, ?_⟩
    · show (execOp _ o).run Tryz.prog wc = _
      unfold execOp
      simp only [hop]
      rw [hec, show ek [(a, .pointer (some ⟨w0.heap.size, 0, none⟩)), (c, .agg l.toArray)] (.tmp a) = .pointer (some ⟨w0.heap.size, 0, none⟩) by simp [ek]]
      simp only [Instr.storeAt, Instr.sureAddr, Sem.run_bind, Sem.run_pure, Result.andThen_ok, hst]
    · apply Array.ext_getElem?
      intro m
      by_cases e : m = w0.heap.size
      · subst e
        rw [setRow_heap wc _ _ _ _ _ hb]
        exact (heap_alloc_new _ _).symm
      · rw [setRow_other wc _ _ _ e, s.heap]
        show (w0.heap.push _)[m]? = (w0.heap.push _)[m]?
        rw [Array.getElem?_push, Array.getElem?_push, if_neg e, if_neg e]
    · exact s.os
    · exact s.output
    · simp [World.setRow]
  · intro w1 s
    rw [hd]
    exact nx.same s
end
end Go.Proofs.YtkpekiajdlolnabGreat.Ph

/-
  A STEP OF THE LAW, second text: New.
-/
namespace Go.Proofs.YtkpekiajdlolnabGreat
open Go.RowKit Go.Maps

section
variable {x : Nat → Value} {w : World} {Q : Exit → Act → World → Prop} {o : OpV} {W ob n0 n : Nat} {cs : List Cst}
theorem cells2 (w : World) (a b : Value) (ty : TypeId) : ∀ (j : Nat) (u : Value), [a, b][j]? = some u → (w.alloc (.cells #[a, b] ty)).cell? ((⟨w.heap.size, 0, none⟩ : Addr).add j) = some u := fun j u hj => by
  rw [Addr.add_lit, Nat.zero_add]
  match j, hj with
  | 0, hj => simp at hj; subst hj; go_simp
  | 1, hj => simp at hj; subst hj; go_simp
/-- both have given a cluster. -/
structure NewW (n0 : Nat) (w0 w : World) (W n : Nat) (cs : List Cst) (c : Cst) (CS S : Value) : Prop where
  ls : LsAt n0 w W CS S n
  row : w.ownsRow n0 56 2 CS cs.length (prow cs)
  law : LawAt n0 w W n cs
  cst : CstAt n0 w c
  ap : ∀ d ∈ cs, Apart d c
  even : Even c
  below : Below w0.heap.size w0 w
theorem NewW.of {w1 w2 : World} {cl : Nat} {db mb : Nat → Nat} {ml sb : Nat} {lv : Nat → Value} (h : LawAt n0 w W n cs) (h1 : NewAt w w1 cl 4 db mb) (h2 : Mdl w2 ml sb lv (fun _ => [])) (hb : Below w1.heap.size w1 w2) (hsb : w1.heap.size ≤ sb) : ∃ CS S, NewW n0 w w2 W n cs ⟨cl, db, mb, ml, sb, fun _ => [], fun _ => []⟩ CS S := by
  have hbb : Below w.heap.size w w2 := h1.below.trans (hb.mono h1.below.size)
  have hl := h.below hbb
  obtain ⟨CS, S, h5, h4⟩ := hl.b
  have z := h1.below.size
  have l0 := h.n0_le
  exact ⟨CS, S, h5, h4, hl, new_cst h1 hb h2 l0 (by omega), fun d hd => new_apart h1 (h.each d hd) (by omega), rfl, hbb⟩
theorem NewW.cell {w0 : World} {c : Cst} {CS S : Value} (h : NewW n0 w0 w W n cs c CS S) : w.cell? ⟨W, 0, none⟩ = some CS ∧ w.frozen? ⟨W, 0, none⟩ = false := by
  obtain ⟨cur, h1, h2, h3, h4⟩ := h.ls.b
  exact ⟨by simp [World.cell?, h1, h3], by simp [World.frozen?, h1]⟩
theorem NewW.done {w0 w3 : World} {c : Cst} {CS S v3 : Value} {ob' : Obj} (h : NewW n0 w0 w W n cs c CS S) (he : ∀ c ∈ cs, Even c) (hg : (w.alloc ob').grownBy w3 CS.ownBlock) (hr : w3.ownsRow n0 56 2 v3 (cs.length + 1) (prow cs ++ [.pointer (some ⟨c.cl, 0, none⟩), .pointer (some ⟨c.ml, 0, none⟩)])) :
    w3.cell? ⟨W, 0, none⟩ = some CS ∧ w3.frozen? ⟨W, 0, none⟩ = false ∧ StepPost n0 w0 W n cs (w3.setCell ⟨W, 0, none⟩ v3) := by
  obtain ⟨h1, h2, h3, h4⟩ := h.law.add h.ls h.row h.cst h.ap hg hr
  refine ⟨h1, h2, n, cs ++ [c], h3, fun d hd => ?_, by omega, by simp, (But.of_below (B := fun b => n0 ≤ b) h.below).trans h4⟩
  rcases List.mem_append.1 hd with hd | hd
  · exact he d hd
  · rw [List.mem_singleton] at hd; subst hd; exact h.even
set_option maxRecDepth 100000 in
set_option maxHeartbeats 1000000 in
theorem tN_yes {k : Nat} (hW : x 0 = .pointer (some ⟨W, 0, none⟩)) (hob : x 3 = .pointer (some ⟨ob, 0, none⟩)) (h : StepW n0 w W n cs ob o) (hk : o.k = 1) (hb : o.b = (k : Nat)) (h2 : 2 ≤ k) (h4 : k ≤ 4) (hlen : cs.length ≤ 4398046511103) : Code.wp Tryz.prog tN (RetT (StepPost n0 w W n cs)) ⟨SS x, []⟩ w := by
  have c0 : w.cell? ⟨ob, 0, none⟩ = some (.int .i64 1) := by simp [World.cell?, h.op, OpV.cells, hk]
  have c2 : w.cell? ⟨ob, 2, none⟩ = some (.int .i64 (k : Nat)) := by simp [World.cell?, h.op, OpV.cells, hb]
  have H := Lib.hid h
  have HB := Lib.hid (And.intro h2 h4)
  have HK := Lib.hid hlen
  clear h hk hb h2 h4 hlen
  obtain ⟨x, rfl⟩ := upd_self hW
  obtain ⟨x, rfl⟩ := upd_self (x := x) (j := 3) (v := .pointer (some ⟨ob, 0, none⟩)) hob
  clear hob hW
  obtain ⟨pi, l1, l2, l3, l4⟩ := pairTInfo
  have HI := Lib.hid (And.intro l1 (And.intro l2 (And.intro l3 l4)))
  clear l1 l2 l3 l4
  unfold tN tB SS
  simp only [Tryz.f15, Option.getD, hd1, tl1, upd, Nat.reduceEqDiff, if_true, if_false]
  go_wp2_with (first
    | (go_at_call 17; refine (new_yes k HB.out.1 HB.out.2).mono ?_; rintro e w1 ⟨cl, db, mb, rfl, hn1⟩; have c2 := (hn1.below.cell (World.block_lt_of_cell? w _ c2)).trans c2; have H1 := Lib.hid hn1; clear hn1)
    | (go_at_call 22; refine (rnew_yes k HB.out.1 HB.out.2).mono ?_; rintro e w2 ⟨ml, sb, lv, rfl, hlo, hsb, hm, hb⟩; obtain ⟨CS, S, hN⟩ := NewW.of H.out.law H1.out hm hb hsb; obtain ⟨sa, cp, hv⟩ := shape_of hN.row; subst hv; obtain ⟨d0, d1⟩ := hN.cell; have HN := Lib.hid hN; clear hN hlo hsb hm hb)
    | (at_builtin; (refine wpList_append_own _ rfl (.tmp 55) (.tmp 59) 32 rfl n0 56 pi _ 2 16 Tryz.underlying32 HI.out.1 HI.out.2.1 HI.out.2.2.1 HI.out.2.2.2 rfl (by decide) (.slice sa cs.length cp) cs.length (prow cs) rfl (HN.out.row.alloc _) ⟨w2.heap.size, 0, none⟩ 1 1 [.pointer (some ⟨cl, 0, none⟩), .pointer (some ⟨ml, 0, none⟩)] rfl rfl (cells2 w2 _ _ _) (by intro u hu; simp at hu; rcases hu with rfl | rfl <;> rfl) (by have := HK.out; unfold maxLen; omega) (by have := HK.out; omega) (by have a0 := HN.out.law.n0_le; simp; omega) ?_; intro v3 w3 hrow3 hg3 _; have H3 := Lib.hid (HN.out.done H.out.ev hg3 hrow3); obtain ⟨sa3, cp3, hv3⟩ := shape_of hrow3; subst hv3; obtain ⟨d3, e3, _⟩ := H3.out; clear hrow3 hg3)))
  exact ⟨rfl, rfl, H3.out.2.2⟩
end
end Go.Proofs.YtkpekiajdlolnabGreat

/-
  A STEP OF THE LAW, third text: which cluster.
-/
namespace Go.Proofs.YtkpekiajdlolnabGreat
open Go.RowKit Go.Maps

/-- a way on. -/
def Jn (R : (Nat → Value) → World → Prop) : Exit → Act → World → Prop
  | .normal, a, w => ∃ x, a = ⟨SS x, []⟩ ∧ R x w
  | _, _, _ => False
set_option maxRecDepth 100000 in
theorem SS_eq (x : Nat → Value) : SS x = ((List.range 224).map x).toArray := rfl
theorem SS_list {t : Array Value} (h : t.size = 224) : SS (fun i => t.getD i undef) = t := by
  rw [SS_eq]
  apply Array.ext
  · simp [h]
  · intro i h1 h2
    simp [h2]
theorem jn {R : (Nat → Value) → World → Prop} {t : Array Value} {w : World} (h : t.size = 224) (r : R (fun i => t.getD i undef) w) : Jn R .normal ⟨t, []⟩ w := ⟨_, by rw [SS_list h], r⟩
section
variable {x : Nat → Value} {w : World} {Q : Exit → Act → World → Prop} {o : OpV} {W ob n0 n : Nat} {cs : List Cst}
theorem StepW.law_b (h : StepW n0 w W n cs ob o) : ∃ sa cp, w.cell? ⟨W, 0, none⟩ = some (.slice sa cs.length cp) ∧ w.ownsRow n0 56 2 (.slice sa cs.length cp) cs.length (prow cs) := by
  obtain ⟨CS, S, h5, h4⟩ := h.law.b
  obtain ⟨sa, cp, rfl⟩ := shape_of h4
  obtain ⟨cur, h1, _, h2, _⟩ := h5.b
  exact ⟨sa, cp, by simp [World.cell?, h1, h2], h4⟩
set_option maxRecDepth 100000 in
theorem tEm_nil (hW : x 0 = .pointer (some ⟨W, 0, none⟩)) (h : StepW n0 w W n cs ob o) (hk : cs = []) : Code.wp Tryz.prog tEm (RetT (StepPost n0 w W n cs)) ⟨SS x, []⟩ w := by
  obtain ⟨sa, cp, c0, _⟩ := h.law_b
  have H := Lib.hid h
  subst hk
  clear h
  simp only [List.length_nil] at c0
  obtain ⟨x, rfl⟩ := upd_self hW
  clear hW
  unfold tEm tB SS
  simp only [Tryz.f15, Option.getD, hd1, tl1, upd, Nat.reduceEqDiff, if_true, if_false]
  go_wp2
  exact ⟨rfl, rfl, H.out.law.refl' H.out.ev (Below.refl _ _)⟩
set_option maxRecDepth 100000 in
theorem tEm_some (hW : x 0 = .pointer (some ⟨W, 0, none⟩)) (hob : x 3 = .pointer (some ⟨ob, 0, none⟩)) (h : StepW n0 w W n cs ob o) (hk : 0 < cs.length) :
    Code.wp Tryz.prog tEm (Jn fun x w' => x 0 = .pointer (some ⟨W, 0, none⟩) ∧ x 3 = .pointer (some ⟨ob, 0, none⟩) ∧ w' = w) ⟨SS x, []⟩ w := by
  obtain ⟨sa, cp, c0, _⟩ := h.law_b
  have hn : ((cs.length : Int) == 0) = false := by rw [beq_eq_false_iff_ne]; omega
  clear h
  obtain ⟨x, rfl⟩ := upd_self hW
  obtain ⟨x, rfl⟩ := upd_self (x := x) (j := 3) (v := .pointer (some ⟨ob, 0, none⟩)) hob
  clear hW hob hk
  unfold tEm tB SS
  simp only [Tryz.f15, Option.getD, hd1, tl1, upd, Nat.reduceEqDiff, if_true, if_false]
  go_wp2
  exact jn rfl ⟨rfl, rfl, rfl⟩
theorem pickN_lt {a : Int} {n : Nat} (h : 0 < n) : pickN a n < n := Nat.mod_lt _ h
/-- the cluster that a step speaks of. -/
structure PickW (w : World) (g W ob k n cap : Nat) (o : OpV) (c : Cst) : Prop where
  c0 : w.cell? ⟨W, 0, none⟩ = some (.slice (some ⟨g, 0, none⟩) n cap)
  c1 : w.cell? ⟨ob, 1, none⟩ = some (.int .i64 o.a)
  e0 : w.cell? ⟨g, k * 2, none⟩ = some (.pointer (some ⟨c.cl, 0, none⟩))
  e1 : w.cell? ⟨g, k * 2 + 1, none⟩ = some (.pointer (some ⟨c.ml, 0, none⟩))
theorem StepW.pick {c : Cst} {k : Nat} (h : StepW n0 w W n cs ob o) (hc : cs[k]? = some c) : ∃ g cap, PickW w g W ob k cs.length cap o c := by
  obtain ⟨sa, cp, c0, hr⟩ := h.law_b
  have hlt := (List.getElem?_eq_some_iff.1 hc).1
  obtain ⟨p1, p2⟩ := prow_get cs k c hc
  rcases hr.2 with ⟨_, hz⟩ | ⟨g, cap, cur, e, _⟩
  · omega
  · injection e with e1 e2 e3
    subst e1; subst e3
    have d1 := hr.cells (g := g) rfl _ _ p1
    have d2 := hr.cells (g := g) rfl _ _ p2
    rw [Addr.add_lit, Nat.zero_add] at d1 d2
    exact ⟨g, cp, c0, by simp [World.cell?, h.op, OpV.cells], d1, d2⟩
theorem pk_alloc {w : World} {a b c d : Addr} {x y z u : Value} (o : Obj) (h1 : w.cell? a = some x) (h2 : w.cell? b = some y) (h3 : w.cell? c = some z) (h4 : w.cell? d = some u) :
    (w.alloc o).cell? a = some x ∧ (w.alloc o).cell? b = some y ∧ (w.alloc o).cell? c = some z ∧ (w.alloc o).cell? d = some u := by
  have hb := (Below.refl w.heap.size w).alloc (Nat.le_refl _) o
  have key : ∀ {e : Addr} {v : Value}, w.cell? e = some v → (w.alloc o).cell? e = some v := fun {e v} h => (hb.cell (World.block_lt_of_cell? w _ h)).trans h
  exact ⟨key h1, key h2, key h3, key h4⟩
def PairB (w : World) (pb : Nat) (c : Cst) : Prop := w.heap[pb]? = some (.cells #[.pointer (some ⟨c.cl, 0, none⟩), .pointer (some ⟨c.ml, 0, none⟩)] 56 (0, 0))
set_option maxRecDepth 100000 in
set_option maxHeartbeats 1000000 in
theorem tP_wp {c : Cst} (hW : x 0 = .pointer (some ⟨W, 0, none⟩)) (hob : x 3 = .pointer (some ⟨ob, 0, none⟩)) (h : StepW n0 w W n cs ob o) (hc : cs[pickN o.a cs.length]? = some c) (hl : cs.length ≤ 4398046511104) (ha : -9223372036854775808 ≤ o.a ∧ o.a ≤ 9223372036854775807) :
    Code.wp Tryz.prog tP (Jn fun x w' => x 0 = .pointer (some ⟨W, 0, none⟩) ∧ x 3 = .pointer (some ⟨ob, 0, none⟩) ∧ x 9 = .pointer (some ⟨w.heap.size, 0, none⟩) ∧ PairB w' w.heap.size c ∧ Below w.heap.size w w') ⟨SS x, []⟩ w := by
  have hlt := (List.getElem?_eq_some_iff.1 hc).1
  obtain ⟨g, cap, c0, c1, e0, e1⟩ := h.pick hc
  have HA := Lib.hid ha
  have HL := Lib.hid hl
  have H0 : Hid (0 < cs.length) := Lib.hid (by omega)
  clear h ha hl hc
  generalize cs.length = m at *
  obtain ⟨k, hk⟩ : ∃ k, pickN o.a m = k := ⟨_, rfl⟩
  rw [hk] at hlt e0 e1
  have HK := Lib.hid hk
  have hki : (k : Int) < (m : Int) := by omega
  have hk0 : (0 : Int) ≤ (k : Int) := by omega
  clear hk
  obtain ⟨x, rfl⟩ := upd_self hW
  obtain ⟨x, rfl⟩ := upd_self (x := x) (j := 3) (v := .pointer (some ⟨ob, 0, none⟩)) hob
  clear hW hob
  unfold tP tB SS
  simp only [Tryz.f15, Option.getD, hd1, tl1, upd, Nat.reduceEqDiff, if_true, if_false]
  go_wp2
  go_region_held3 (fun w' => w'.cell? ⟨W, 0, none⟩ = some (.slice (some ⟨g, 0, none⟩) m cap) ∧ w'.cell? ⟨ob, 1, none⟩ = some (.int .i64 o.a) ∧ w'.cell? ⟨g, k * 2, none⟩ = some (.pointer (some ⟨c.cl, 0, none⟩)) ∧ w'.cell? ⟨g, k * 2 + 1, none⟩ = some (.pointer (some ⟨c.ml, 0, none⟩)))
    (first | exact ⟨c0, c1, e0, e1⟩ | assumption | exact pk_alloc _ c0 c1 e0 e1)
    (first | (go_at_call 23; refine (pick_c _ _ H0.out HL.out HA.out.1 HA.out.2).mono ?_; rintro e w1 ⟨rfl, rfl⟩; rw [HK.out]))
  all_goals exact jn rfl ⟨rfl, rfl, rfl, heap_alloc_new _ _, ((Below.refl _ _).alloc (Nat.le_refl _) _).drew⟩
end
end Go.Proofs.YtkpekiajdlolnabGreat

/-
  A STEP OF THE LAW, fourth text: Put, Delete.
-/
namespace Go.Proofs.YtkpekiajdlolnabGreat
open Go.RowKit Go.Maps

noncomputable def c1 : Code → Code
  | .cond _ a _ => a
  | c => c
noncomputable def c2 : Code → Code
  | .cond _ _ b => b
  | c => c
noncomputable def blk : Code → Code
  | .block _ c => c
  | c => c
noncomputable def tR14 : Code := hd1 (hd1 tM)
noncomputable def tK2 : Code := blk (tl1 (hd1 tM))
noncomputable def tK3 : Code := c2 (tl1 tK2)
noncomputable def tK4 : Code := c2 (tl1 tK3)
noncomputable def tK5 : Code := c2 (tl1 tK4)
noncomputable def tK6 : Code := c2 (tl1 tK5)
noncomputable def tPut : Code := c1 (tl1 tK2)
noncomputable def tDel : Code := c1 (tl1 tK3)
noncomputable def tGet : Code := c1 (tl1 tK4)
noncomputable def tScan : Code := c1 (tl1 tK5)
/-- a step that speaks of a cluster. -/
structure SwW (n0 : Nat) (w : World) (W n : Nat) (cs : List Cst) (ob pb k : Nat) (o : OpV) (c : Cst) : Prop where
  st : StepW n0 w W n cs ob o
  pr : PairB w pb c
  ck : cs[k]? = some c
section
variable {x : Nat → Value} {w w1 : World} {Q : Exit → Act → World → Prop} {o : OpV} {W ob pb k n0 n : Nat} {cs : List Cst} {c : Cst}
theorem StepW.below (h : StepW n0 w W n cs ob o) (hb : Below w.heap.size w w1) : StepW n0 w1 W n cs ob o := ⟨h.law.below hb, h.ev, (hb.block ob (Array.getElem?_eq_some_iff.1 h.op).1).trans h.op⟩
theorem SwW.below (h : SwW n0 w W n cs ob pb k o c) (hb : Below w.heap.size w w1) : SwW n0 w1 W n cs ob pb k o c := ⟨h.st.below hb, (hb.block pb (Array.getElem?_eq_some_iff.1 h.pr).1).trans h.pr, h.ck⟩
theorem SwW.cst (h : SwW n0 w W n cs ob pb k o c) : CstAt n0 w c := h.st.law.each c (List.mem_of_getElem? h.ck)
theorem SwW.e (h : SwW n0 w W n cs ob pb k o c) : c.L = c.M := h.st.ev c (List.mem_of_getElem? h.ck)
/-- the cells that a step reads. -/
def SwC (w : World) (ob pb : Nat) (o : OpV) (c : Cst) : Prop := w.cell? ⟨pb, 0, none⟩ = some (.pointer (some ⟨c.cl, 0, none⟩)) ∧ w.cell? ⟨pb, 1, none⟩ = some (.pointer (some ⟨c.ml, 0, none⟩)) ∧ w.cell? ⟨ob, 2, none⟩ = some (.int .i64 o.b) ∧ w.cell? ⟨ob, 7, none⟩ = some (.string o.s) ∧ w.cell? ⟨ob, 8, none⟩ = some (.string o.t)
theorem swc (h : PairB w pb c) (h2 : w.heap[ob]? = some (.cells o.cells 30 (0, 0))) : SwC w ob pb o c :=
  ⟨by simp [World.cell?, show w.heap[pb]? = _ from h], by simp [World.cell?, show w.heap[pb]? = _ from h], by simp [World.cell?, h2, OpV.cells], by simp [World.cell?, h2, OpV.cells], by simp [World.cell?, h2, OpV.cells]⟩
theorem SwW.cells (h : SwW n0 w W n cs ob pb k o c) : SwC w ob pb o c := swc h.pr h.st.op
/-- the program's cluster has changed, the document's not yet. -/
structure MidW (n0 : Nat) (w0 w : World) (W n : Nat) (cs : List Cst) (ob pb k : Nat) (o : OpV) (c : Cst) (X : Nat → KV) : Prop where
  law : LawAt n0 w W n (cs.set k { c with L := X })
  pr : PairB w pb c
  op : w.heap[ob]? = some (.cells o.cells 30 (0, 0))
  but : But (fun b => n0 ≤ b) w0 w
theorem MidW.cells {w0 : World} {X : Nat → KV} (h : MidW n0 w0 w W n cs ob pb k o c X) : SwC w ob pb o c := swc h.pr h.op
theorem put_at (h : SwW n0 w W n cs ob pb k o c) (hb : Below w.heap.size w w1) {f : FuncId} {args : Array Value} {y z : ByteArray} {g : Bool} (hc : Clu w1 c.cl c.db c.mb c.L → Calls Tryz.prog f args w1 (CluPost w1 c.cl c.db c.mb (chState c.L y.data.toList z.data.toList g) (chAll c.L y.data.toList z.data.toList g))) :
    Calls Tryz.prog f args w1 fun e w' => e = .returned (.int .i64 (chAll c.L y.data.toList z.data.toList g)) ∧ MidW n0 w w' W n cs ob pb k o c (chState c.L y.data.toList z.data.toList g) := by
  have h1 := h.below hb
  refine (hc h1.cst.clu).mono fun e w' hp => ?_
  obtain ⟨e1, e2, e3⟩ := put_law h1.st.law h1.ck hp
  have no : ∀ (b : Nat) (cur : Array Value) (ty : TypeId), w1.heap[b]? = some (Obj.cells cur ty (0, 0)) → w'.heap[b]? = some (Obj.cells cur ty (0, 0)) := fun b cur ty hbb => (e3.keep b (Array.getElem?_eq_some_iff.1 hbb).1 fun ⟨i, hi, e⟩ => map_ne (h1.cst.clu.p i hi).l hbb e).trans hbb
  exact ⟨e1, e2, no _ _ _ h1.pr, no _ _ _ h1.st.op, (But.of_below (B := fun b => n0 ≤ b) hb).trans (e3.mono fun b ⟨i, hi, e⟩ => e ▸ h1.cst.nmb i hi)⟩
theorem chg_at {w0 : World} {y z : ByteArray} {g : Bool} (h : MidW n0 w0 w W n cs ob pb k o c (chState c.L y.data.toList z.data.toList g)) (hb : Below w.heap.size w w1) (hk : cs[k]? = some c) (he : ∀ c ∈ cs, Even c) :
    Calls Tryz.prog 24 #[.pointer (some ⟨c.ml, 0, none⟩), .agg #[.string y, .string z, .bool g]] w1 fun e w' => e = .returned (.int .i64 (chAll c.L y.data.toList z.data.toList g)) ∧ StepPost n0 w0 W n cs w' ∧ SwC w' ob pb o c := by
  have h1 := h.law.below hb
  have hlt := (List.getElem?_eq_some_iff.1 hk).1
  have hk1 : (cs.set k { c with L := chState c.L y.data.toList z.data.toList g })[k]? = some { c with L := chState c.L y.data.toList z.data.toList g } := List.getElem?_set_self hlt
  have hLM : c.L = c.M := he c (List.mem_of_getElem? hk)
  refine (change_law h1 hk1 y z g).mono fun e w' ⟨e1, e2, e3⟩ => ⟨?_, ⟨n, _, e2, fun d hd => ?_, by omega, by simp, h.but.trans ((But.of_below (B := fun b => n0 ≤ b) hb).trans (e3.mono fun b hb => ?_))⟩, ?_⟩
  · rw [e1]
    show Ending.returned (.int .i64 (chAll c.M _ _ g)) = _
    rw [hLM]
  · rw [List.set_set] at hd
    rcases List.mem_or_eq_of_mem_set hd with hd | hd
    · exact he d hd
    · subst hd
      show chState c.L y.data.toList z.data.toList g = chState c.M y.data.toList z.data.toList g
      rw [hLM]
  · subst hb
    exact (h.law.each _ (List.mem_of_getElem? hk1)).nsb
  · obtain ⟨lv, hm⟩ := (h1.each _ (List.mem_of_getElem? hk1)).mdl
    obtain ⟨cur, k3, _⟩ := hm.b
    have no : ∀ (b : Nat) (cur : Array Value) (ty : TypeId), w.heap[b]? = some (Obj.cells cur ty (0, 0)) → ty ≠ 104 → w'.heap[b]? = some (Obj.cells cur ty (0, 0)) := fun b cur ty hbb hne => by
      have hb1 := (hb.block b (Array.getElem?_eq_some_iff.1 hbb).1).trans hbb
      refine (e3.keep b (Array.getElem?_eq_some_iff.1 hb1).1 fun e => ?_).trans hb1
      rw [e] at hb1
      have e2 := Option.some.inj (k3.symm.trans hb1)
      injection e2 with _ e4
      exact hne e4.symm
    exact swc (no _ _ _ h.pr (by decide)) (no _ _ _ h.op (by decide))
set_option maxRecDepth 100000 in
set_option maxHeartbeats 1000000 in
theorem tPut_wp (hob : x 3 = .pointer (some ⟨ob, 0, none⟩)) (hpb : x 9 = .pointer (some ⟨pb, 0, none⟩)) (h : SwW n0 w W n cs ob pb k o c) (hs : o.s.size ≤ maxLen) : Code.wp Tryz.prog tPut (RetT (StepPost n0 w W n cs)) ⟨SS x, []⟩ w := by
  obtain ⟨a1, a2, a3, a4, a5⟩ := h.cells
  have H := Lib.hid h
  have HS := Lib.hid hs
  clear h hs
  obtain ⟨x, rfl⟩ := upd_self hob
  obtain ⟨x, rfl⟩ := upd_self (x := x) (j := 9) (v := .pointer (some ⟨pb, 0, none⟩)) hpb
  clear hob hpb
  unfold tPut tK2 tM tB SS
  simp only [Tryz.f15, Option.getD, hd1, tl1, c1, c2, blk, upd, Nat.reduceEqDiff, if_true, if_false]
  go_wp2
  go_region_held3 (fun w' => w'.cell? ⟨pb, 0, none⟩ = some (.pointer (some ⟨c.cl, 0, none⟩)) ∧ w'.cell? ⟨pb, 1, none⟩ = some (.pointer (some ⟨c.ml, 0, none⟩)) ∧ w'.cell? ⟨ob, 7, none⟩ = some (.string o.s) ∧ w'.cell? ⟨ob, 8, none⟩ = some (.string o.t))
    (first | exact ⟨a1, a2, a4, a5⟩ | exact ⟨H1.out.cells.1, H1.out.cells.2.1, H1.out.cells.2.2.2.1, H1.out.cells.2.2.2.2⟩ | exact ⟨H2.out.2.1, H2.out.2.2.1, H2.out.2.2.2.2.1, H2.out.2.2.2.2.2⟩)
    (first
      | (go_at_call 18; refine (put_at H.out (by first | exact Below.refl _ _ | exact (Below.refl _ _).drew) fun hc => put_c hc o.s o.t HS.out).mono ?_; rintro e w1 ⟨rfl, h1⟩; have H1 := Lib.hid h1; clear h1)
      | (go_at_call 24; refine (chg_at H1.out (by first | exact Below.refl _ _ | exact (Below.refl _ _).drew) H.out.ck H.out.st.ev).mono ?_; rintro e w2 ⟨rfl, h2⟩; have H2 := Lib.hid h2; clear h2))
  go_wp2
  exact ⟨rfl, rfl, H2.out.1⟩
set_option maxRecDepth 100000 in
set_option maxHeartbeats 1000000 in
theorem tDel_wp (hob : x 3 = .pointer (some ⟨ob, 0, none⟩)) (hpb : x 9 = .pointer (some ⟨pb, 0, none⟩)) (h : SwW n0 w W n cs ob pb k o c) (hs : o.s.size ≤ maxLen) : Code.wp Tryz.prog tDel (RetT (StepPost n0 w W n cs)) ⟨SS x, []⟩ w := by
  obtain ⟨a1, a2, a3, a4, a5⟩ := h.cells
  have H := Lib.hid h
  have HS := Lib.hid hs
  clear h hs
  obtain ⟨x, rfl⟩ := upd_self hob
  obtain ⟨x, rfl⟩ := upd_self (x := x) (j := 9) (v := .pointer (some ⟨pb, 0, none⟩)) hpb
  clear hob hpb
  unfold tDel tK3 tK2 tM tB SS
  simp only [Tryz.f15, Option.getD, hd1, tl1, c1, c2, blk, upd, Nat.reduceEqDiff, if_true, if_false]
  go_wp2
  go_region_held3 (fun w' => w'.cell? ⟨pb, 0, none⟩ = some (.pointer (some ⟨c.cl, 0, none⟩)) ∧ w'.cell? ⟨pb, 1, none⟩ = some (.pointer (some ⟨c.ml, 0, none⟩)) ∧ w'.cell? ⟨ob, 7, none⟩ = some (.string o.s))
    (first | exact ⟨a1, a2, a4⟩ | exact ⟨H1.out.cells.1, H1.out.cells.2.1, H1.out.cells.2.2.2.1⟩ | exact ⟨H2.out.2.1, H2.out.2.2.1, H2.out.2.2.2.2.1⟩)
    (first
      | (go_at_call 25; refine (put_at (z := ⟨#[]⟩) (g := true) (y := o.s) H.out (by first | exact Below.refl _ _ | exact (Below.refl _ _).drew) fun hc => delete_c hc o.s HS.out).mono ?_; rintro e w1 ⟨rfl, h1⟩; have H1 := Lib.hid h1; clear h1)
      | (go_at_call 24; refine (chg_at H1.out (by first | exact Below.refl _ _ | exact (Below.refl _ _).drew) H.out.ck H.out.st.ev).mono ?_; rintro e w2 ⟨rfl, h2⟩; have H2 := Lib.hid h2; clear h2))
  go_wp2
  exact ⟨rfl, rfl, H2.out.1⟩
end
end Go.Proofs.YtkpekiajdlolnabGreat

/-
  A STEP OF THE LAW, fifth text: Get; what a Scan has given is the caller's.
-/
namespace Go.Proofs.YtkpekiajdlolnabGreat
open Go.RowKit Go.Maps

section
variable {x : Nat → Value} {w w1 : World} {Q : Exit → Act → World → Prop} {o : OpV} {W ob pb k n0 n : Nat} {cs : List Cst} {c : Cst}
theorem StepW.idle (h : StepW n0 w W n cs ob o) (hb : But (fun _ => False) w w1) : StepW n0 w1 W n cs ob o := ⟨h.law.idle hb, h.ev, (hb.keep ob (Array.getElem?_eq_some_iff.1 h.op).1 id).trans h.op⟩
theorem SwW.idle (h : SwW n0 w W n cs ob pb k o c) (hb : But (fun _ => False) w w1) : SwW n0 w1 W n cs ob pb k o c := ⟨h.st.idle hb, (hb.keep pb (Array.getElem?_eq_some_iff.1 h.pr).1 id).trans h.pr, h.ck⟩
theorem StepPost.pre {w' : World} (h : StepPost n0 w1 W n cs w') (hb : But (fun b => n0 ≤ b) w w1) : StepPost n0 w W n cs w' := by
  obtain ⟨n', cs', h1, h2, h3, h4, h5⟩ := h
  exact ⟨n', cs', h1, h2, h3, h4, hb.trans h5⟩
set_option maxRecDepth 100000 in
set_option maxHeartbeats 1000000 in
theorem tGet_wp (hob : x 3 = .pointer (some ⟨ob, 0, none⟩)) (hpb : x 9 = .pointer (some ⟨pb, 0, none⟩)) (h : SwW n0 w W n cs ob pb k o c) (hs : o.s.size ≤ maxLen) : Code.wp Tryz.prog tGet (RetT (StepPost n0 w W n cs)) ⟨SS x, []⟩ w := by
  obtain ⟨a1, a2, a3, a4, a5⟩ := h.cells
  have H := Lib.hid h
  have HS := Lib.hid hs
  clear h hs a3 a5
  obtain ⟨x, rfl⟩ := upd_self hob
  obtain ⟨x, rfl⟩ := upd_self (x := x) (j := 9) (v := .pointer (some ⟨pb, 0, none⟩)) hpb
  clear hob hpb
  have HE := Lib.hid H.out.e
  obtain ⟨gs, hg⟩ : ∃ gs, sv (getV c.L o.s.data.toList) = .string gs := ⟨_, rfl⟩
  obtain ⟨ge, hge⟩ : ∃ ge, getE c.L o.s.data.toList = ge := ⟨_, rfl⟩
  have HG := Lib.hid (And.intro hg hge)
  clear hg hge
  unfold tGet tK4 tK3 tK2 tM tB SS
  simp only [Tryz.f15, Option.getD, hd1, tl1, c1, c2, blk, upd, Nat.reduceEqDiff, if_true, if_false]
  go_wp2_with (first
    | (go_at_call 19; refine (get_all H.out.cst.clu o.s HS.out).mono ?_; rintro e w1 ⟨rfl, hb1⟩; have H1 := Lib.hid (H.out.below hb1); obtain ⟨a1, a2, a3, a4, a5⟩ := H1.out.cells; rw [HG.out.1, HG.out.2]; have HB1 := Lib.hid hb1; clear hb1 a3 a5)
    | (go_at_call 26; obtain ⟨lv, hm⟩ := H1.out.cst.mdl; refine (rget_c o.s H1.out.cst.len (fun i hi => (H1.out.cst.ris i hi).2) hm).mono ?_; rintro e w2 ⟨rfl, hb2⟩; rw [← HE.out, HG.out.1, HG.out.2]; have HB2 := Lib.hid hb2; clear hb2 hm))
  exact ⟨rfl, rfl, H.out.st.law.refl' H.out.st.ev (HB1.out.trans (HB2.out.mono HB1.out.size))⟩
end
end Go.Proofs.YtkpekiajdlolnabGreat

/-
  A STEP OF THE LAW, sixth text: behind the program's Scan.
-/
namespace Go.Proofs.YtkpekiajdlolnabGreat
open Go.RowKit Go.Maps

section
variable {x : Nat → Value} {w w1 w2 : World} {Q : Exit → Act → World → Prop} {o : OpV} {W ob pb k n0 n base : Nat} {cs : List Cst} {c : Cst} {v : Value} {l : KV}
theorem Mdl.lv_eq {ml ml' sb : Nat} {lv lv' : Nat → Value} {L L' : Nat → KV} (h : Mdl w ml sb lv L) (h' : Mdl w ml' sb lv' L') {i : Nat} (hi : i < 4) : lv i = lv' i := by
  have h1 := (h.cl hi).1
  rw [(h'.cl hi).1] at h1
  exact (Option.some.inj h1).symm
/-- no list of the document's stands at this height. -/
def Low (w : World) (W : Nat) (cs : List Cst) (base : Nat) : Prop := (∀ c ∈ cs, ∀ lv, Mdl w c.ml c.sb lv c.M → ∀ i, i < 4 → ∀ g, (lv i).ownBlock = some g → g < base) ∧ ∀ S, w.cell? ⟨W, 2, none⟩ = some S → ∀ g, HeldB w S g → g < base
theorem LawAt.low (h : LawAt n0 w W n cs) : Low w W cs w.heap.size := ⟨fun c hc lv hm i hi g hg => by
  obtain ⟨cur, h1⟩ := (hm.r i hi).ty hg
  exact (Array.getElem?_eq_some_iff.1 h1).1, fun S hS g hg => by
  obtain ⟨CS, S', h5, _⟩ := h.b
  rw [h5.cell.1] at hS
  cases hS
  obtain ⟨cur, h1⟩ := h5.held_ty hg
  exact (Array.getElem?_eq_some_iff.1 h1).1⟩
theorem Low.idle (h : Low w W cs base) (hl : LawAt n0 w W n cs) (hb : But (fun _ => False) w w1) : Low w1 W cs base := ⟨fun c hc lv hm i hi g hg => by
  obtain ⟨lv0, h0⟩ := (hl.each c hc).mdl
  obtain ⟨cap, k1⟩ := h0.s
  obtain ⟨mc, k2⟩ := h0.t
  obtain ⟨cur, k3, k4⟩ := h0.b
  have h1 : Mdl w1 c.ml c.sb lv0 c.M := ⟨⟨cap, (World.cell?_of_block (hb.keep _ (Array.getElem?_eq_some_iff.1 k2).1 id)).trans k1⟩, ⟨mc, (hb.keep _ (Array.getElem?_eq_some_iff.1 k2).1 id).trans k2⟩, ⟨cur, (hb.keep _ (Array.getElem?_eq_some_iff.1 k3).1 id).trans k3, k4⟩, fun j hj => (h0.r j hj).block fun g' hg' => by
    obtain ⟨c', hc'⟩ := (h0.r j hj).ty hg'
    exact hb.keep _ (Array.getElem?_eq_some_iff.1 hc').1 id⟩
  rw [hm.lv_eq h1 hi] at hg
  exact h.1 c hc lv0 h0 i hi g hg, fun S hS g hg => by
  obtain ⟨CS, S', h5, _⟩ := hl.b
  obtain ⟨c1, _, c3⟩ := h5.cell
  have e : w1.cell? ⟨W, 2, none⟩ = w.cell? ⟨W, 2, none⟩ := World.cell?_of_block (hb.keep W c3 id)
  rw [e, c1] at hS
  cases hS
  obtain ⟨xs, hx⟩ := h5.row
  refine h.2 _ c1 g ?_
  unfold HeldB at hg ⊢
  rw [heldOf_block fun q hq => hb.keep q (hx.lt q hq).2 id] at hg
  exact hg⟩
theorem mined_at (h : LawAt n0 w W n cs) (hn : n ≤ 4398046511103) (hr : w.ownsRow base 74 2 v l.length (flat l)) (hl : l.length ≤ 1073741820) (hb : n0 ≤ base) (hlow : Low w W cs base) :
    Calls Tryz.prog 30 #[.pointer (some ⟨W, 0, none⟩), v] w fun e w' => (e = .returned (.tuple #[])) ∧ LawAt n0 w' W (n + 1) cs ∧ But (fun b => n0 ≤ b) w w' := by
  obtain ⟨CS, S, h5, h4⟩ := h.b
  have key : ∀ w', (∃ S', LsAt n0 w' W CS S' (n + 1)) → But (MineB W S v) w w' → LawAt n0 w' W (n + 1) cs ∧ But (fun b => n0 ≤ b) w w' := fun w' h1 h2 => by
    refine ⟨h.mined h5 h4 h2 hr (fun c hc lv hm i hi g hg e => ?_) h1, h2.mono fun b hb' => ?_⟩
    · have h1 := hlow.1 c hc lv hm i hi g hg
      have h2 := (hr.lt g e).1
      omega
    · rcases hb' with e | e | e
      · subst e; exact h.lo
      · obtain ⟨xs, hx⟩ := h5.row
        exact (hx.lt b e).1
      · exact Nat.le_trans hb (hr.lt b e).1
  rcases hr.2 with ⟨e, hz⟩ | ⟨g, cap, cur, e, _⟩
  · subst e
    exact (mine_nil h5 hn h.n0_le).mono fun e w' ⟨h1, h2, h3⟩ => ⟨h1, key w' h2 h3⟩
  · subst e
    have hnew : ∀ g', HeldB w S g' → g' ≠ g := fun g' hg' e => by
      have h1 := hlow.2 S h5.cell.1 g' hg'
      have h2 := (hr.lt g rfl).1
      omega
    exact (mine_some h5 hn hr hl h.n0_le hnew).mono fun e w' ⟨h1, h2, h3⟩ => ⟨h1, key w' h2 h3⟩
/-- what the document's Scan answers. -/
def DocScan (w : World) (c : Cst) (o : OpV) (l : KV) (er : Int) : Prop := Calls Tryz.prog 28 #[.pointer (some ⟨c.ml, 0, none⟩), .string o.s, .string o.t, .int .i64 o.b] w fun e w' => ∃ v' b', e = .returned (.tuple #[v', .int .i64 er]) ∧ w'.ownsRow b' 74 2 v' l.length (flat l) ∧ Below w.heap.size w w'
set_option maxRecDepth 100000 in
set_option maxHeartbeats 1000000 in
theorem tScan_wp {er : Int} (hW : x 0 = .pointer (some ⟨W, 0, none⟩)) (hob : x 3 = .pointer (some ⟨ob, 0, none⟩)) (hpb : x 9 = .pointer (some ⟨pb, 0, none⟩)) (hv : x 14 = v) (her : x 15 = .int .i64 er) (h : SwW n0 w W n cs ob pb k o c) (hn : n ≤ 4398046511103)
    (hr : w.ownsRow base 74 2 v l.length (flat l)) (hl : l.length ≤ 1073741820) (hb : n0 ≤ base) (hlow : Low w W cs base) (hd : DocScan w c o l er) : Code.wp Tryz.prog (tl1 tScan) (RetT (StepPost n0 w W n cs)) ⟨SS x, []⟩ w := by
  obtain ⟨a1, a2, a3, a4, a5⟩ := h.cells
  have H := Lib.hid h
  have HR := Lib.hid hr
  have HN := Lib.hid (And.intro hn (And.intro hl (And.intro hb (And.intro hlow hd))))
  clear h hr hn hl hb hlow hd a1
  obtain ⟨x, rfl⟩ := upd_self hW
  obtain ⟨x, rfl⟩ := upd_self (x := x) (j := 3) (v := .pointer (some ⟨ob, 0, none⟩)) hob
  obtain ⟨x, rfl⟩ := upd_self (x := x) (j := 9) (v := .pointer (some ⟨pb, 0, none⟩)) hpb
  obtain ⟨x, rfl⟩ := upd_self (x := x) (j := 14) (v := v) hv
  obtain ⟨x, rfl⟩ := upd_self (x := x) (j := 15) (v := .int .i64 er) her
  clear hW hob hpb hv her
  unfold tScan tK5 tK4 tK3 tK2 tM tB SS
  simp only [Tryz.f15, Option.getD, hd1, tl1, c1, c2, blk, upd, Nat.reduceEqDiff, if_true, if_false]
  go_wp2_with (first
    | (go_at_call 28; refine HN.out.2.2.2.2.mono ?_; rintro e w1 ⟨v', b', rfl, hr1, hb1⟩; have H1 := Lib.hid (H.out.below hb1); have HR1 := Lib.hid hr1; have HB1 := Lib.hid hb1; clear hb1 hr1)
    | (go_at_call 29; refine (same_c (ownsRow_block HR.out fun g hg => HB1.out.block g (HR.out.lt g hg).2) HR1.out (by have := HN.out.2.1; omega)).mono ?_; rintro e w2 ⟨rfl, hb2⟩; have H2 := Lib.hid (H1.out.below hb2); have HB2 := Lib.hid (HB1.out.trans (hb2.mono HB1.out.size)); clear hb2)
    | (go_at_call 30; refine (mined_at H2.out.st.law HN.out.1 (ownsRow_block HR.out fun g hg => HB2.out.block g (HR.out.lt g hg).2) HN.out.2.1 HN.out.2.2.1 (HN.out.2.2.2.1.idle H.out.st.law (But.of_below HB2.out))).mono ?_; rintro e w3 ⟨rfl, h3⟩; have H3 := Lib.hid h3; clear h3))
  exact ⟨rfl, rfl, n + 1, cs, H3.out.1, H.out.st.ev, Nat.le_refl _, by omega, (But.of_below HB2.out).trans H3.out.2⟩
end
end Go.Proofs.YtkpekiajdlolnabGreat

/-
  A STEP OF THE LAW, seventh text: the switch; 'sent' has nothing to send.
-/
namespace Go.Proofs.YtkpekiajdlolnabGreat
open Go.RowKit Go.Maps

structure FrX (W ob pb : Nat) (k : Int) (x : Nat → Value) : Prop where
  w : x 0 = .pointer (some ⟨W, 0, none⟩)
  o : x 3 = .pointer (some ⟨ob, 0, none⟩)
  p : x 9 = .pointer (some ⟨pb, 0, none⟩)
  k : x 84 = .int .i64 k
section
variable {x : Nat → Value} {w w1 w2 : World} {Q : Exit → Act → World → Prop} {o : OpV} {W ob pb k n0 n base : Nat} {cs : List Cst} {c : Cst} {v : Value} {l : KV} {kd : Int}
set_option maxRecDepth 100000 in
theorem tR14_wp (hW : x 0 = .pointer (some ⟨W, 0, none⟩)) (hob : x 3 = .pointer (some ⟨ob, 0, none⟩)) (hpb : x 9 = .pointer (some ⟨pb, 0, none⟩)) (h : SwW n0 w W n cs ob pb k o c) : Code.wp Tryz.prog tR14 (Jn fun x w' => FrX W ob pb o.k x ∧ w' = w) ⟨SS x, []⟩ w := by
  have c0 : w.cell? ⟨ob, 0, none⟩ = some (.int .i64 o.k) := by simp [World.cell?, h.st.op, OpV.cells]
  clear h
  obtain ⟨x, rfl⟩ := upd_self hW
  obtain ⟨x, rfl⟩ := upd_self (x := x) (j := 3) (v := .pointer (some ⟨ob, 0, none⟩)) hob
  obtain ⟨x, rfl⟩ := upd_self (x := x) (j := 9) (v := .pointer (some ⟨pb, 0, none⟩)) hpb
  clear hW hob hpb
  unfold tR14 tM tB SS
  simp only [Tryz.f15, Option.getD, hd1, tl1, upd, Nat.reduceEqDiff, if_true, if_false]
  go_wp2
  exact jn rfl ⟨⟨rfl, rfl, rfl, rfl⟩, rfl⟩
theorem FrX.lay (h : FrX W ob pb kd x) : ∃ y, x = upd (upd (upd (upd y 84 (.int .i64 kd)) 9 (.pointer (some ⟨pb, 0, none⟩))) 3 (.pointer (some ⟨ob, 0, none⟩))) 0 (.pointer (some ⟨W, 0, none⟩)) := by
  obtain ⟨x, rfl⟩ := upd_self h.w
  obtain ⟨x, rfl⟩ := upd_self (x := x) (j := 3) (v := .pointer (some ⟨ob, 0, none⟩)) h.o
  obtain ⟨x, rfl⟩ := upd_self (x := x) (j := 9) (v := .pointer (some ⟨pb, 0, none⟩)) h.p
  obtain ⟨x, rfl⟩ := upd_self (x := x) (j := 84) (v := .int .i64 kd) h.k
  exact ⟨x, rfl⟩
set_option maxRecDepth 100000 in
theorem sw2 (h : FrX W ob pb kd x) : Code.wp Tryz.prog (hd1 tK2) (Jn fun x w' => FrX W ob pb kd x ∧ x 85 = .bool (kd == 2) ∧ w' = w) ⟨SS x, []⟩ w := by
  obtain ⟨x, rfl⟩ := h.lay
  clear h
  unfold tK2 tM tB SS
  simp only [Tryz.f15, Option.getD, hd1, tl1, blk, upd, Nat.reduceEqDiff, if_true, if_false]
  go_wp2
  exact jn rfl ⟨⟨rfl, rfl, rfl, rfl⟩, rfl, rfl⟩
set_option maxRecDepth 100000 in
theorem sw3 (h : FrX W ob pb kd x) : Code.wp Tryz.prog (hd1 tK3) (Jn fun x w' => FrX W ob pb kd x ∧ x 103 = .bool (kd == 3) ∧ w' = w) ⟨SS x, []⟩ w := by
  obtain ⟨x, rfl⟩ := h.lay
  clear h
  unfold tK3 tK2 tM tB SS
  simp only [Tryz.f15, Option.getD, hd1, tl1, c2, blk, upd, Nat.reduceEqDiff, if_true, if_false]
  go_wp2
  exact jn rfl ⟨⟨rfl, rfl, rfl, rfl⟩, rfl, rfl⟩
set_option maxRecDepth 100000 in
theorem sw4 (h : FrX W ob pb kd x) : Code.wp Tryz.prog (hd1 tK4) (Jn fun x w' => FrX W ob pb kd x ∧ x 117 = .bool (kd == 4) ∧ w' = w) ⟨SS x, []⟩ w := by
  obtain ⟨x, rfl⟩ := h.lay
  clear h
  unfold tK4 tK3 tK2 tM tB SS
  simp only [Tryz.f15, Option.getD, hd1, tl1, c2, blk, upd, Nat.reduceEqDiff, if_true, if_false]
  go_wp2
  exact jn rfl ⟨⟨rfl, rfl, rfl, rfl⟩, rfl, rfl⟩
set_option maxRecDepth 100000 in
theorem sw5 (h : FrX W ob pb kd x) : Code.wp Tryz.prog (hd1 tK5) (Jn fun x w' => FrX W ob pb kd x ∧ x 143 = .bool (kd == 5) ∧ w' = w) ⟨SS x, []⟩ w := by
  obtain ⟨x, rfl⟩ := h.lay
  clear h
  unfold tK5 tK4 tK3 tK2 tM tB SS
  simp only [Tryz.f15, Option.getD, hd1, tl1, c2, blk, upd, Nat.reduceEqDiff, if_true, if_false]
  go_wp2
  exact jn rfl ⟨⟨rfl, rfl, rfl, rfl⟩, rfl, rfl⟩
set_option maxRecDepth 100000 in
theorem sw6 (h : FrX W ob pb kd x) (h6 : kd ≠ 6) (h7 : kd ≠ 7) (h8 : kd ≠ 8) : Code.wp Tryz.prog tK6 (Jn fun x w' => FrX W ob pb kd x ∧ w' = w) ⟨SS x, []⟩ w := by
  obtain ⟨x, rfl⟩ := h.lay
  have g6 : (kd == 6) = false := by simpa using h6
  have g7 : (kd == 7) = false := by simpa using h7
  have g8 : (kd == 8) = false := by simpa using h8
  clear h h6 h7 h8
  unfold tK6 tK5 tK4 tK3 tK2 tM tB SS
  simp only [Tryz.f15, Option.getD, hd1, tl1, c2, blk, upd, Nat.reduceEqDiff, if_true, if_false]
  go_wp2
  exact jn rfl ⟨⟨rfl, rfl, rfl, rfl⟩, rfl⟩
set_option maxRecDepth 100000 in
set_option maxHeartbeats 1000000 in
theorem sent_c {wp : Value} {p q : Value} (h9 : o.k ≠ 9) (h10 : o.k ≠ 10) (h11 : o.k ≠ 11) (h12 : o.k ≠ 12) : Calls Tryz.prog 37 #[wp, .agg #[p, q], .agg o.cells] w fun e w' => e = .returned (.bool true) ∧ Below w.heap.size w w' := by
  have g1 : (o.k == 9) = false := by simpa using h9
  have g2 : (o.k == 10) = false := by simpa using h10
  have g3 : (o.k == 11) = false := by simpa using h11
  have g4 : (o.k == 12) = false := by simpa using h12
  clear h9 h10 h11 h12
  unfold OpV.cells
  go_enter Tryz.func37, Tryz.ntmps37
  go_wp2
  go_ret
  exact ⟨rfl, ((Below.refl _ _).alloc (Nat.le_refl _) _).alloc (by simp) _⟩
set_option maxRecDepth 100000 in
set_option maxHeartbeats 1000000 in
theorem tEnd_wp (h : FrX W ob pb kd x) (hs : SwW n0 w W n cs ob pb k o c) (h9 : o.k ≠ 9) (h10 : o.k ≠ 10) (h11 : o.k ≠ 11) (h12 : o.k ≠ 12) : Code.wp Tryz.prog (tl1 tM) (RetT (StepPost n0 w W n cs)) ⟨SS x, []⟩ w := by
  obtain ⟨x, rfl⟩ := h.lay
  have HS := Lib.hid hs
  have HK := Lib.hid (And.intro h9 (And.intro h10 (And.intro h11 h12)))
  have p0 : w.heap[pb]? = some (.cells #[.pointer (some ⟨c.cl, 0, none⟩), .pointer (some ⟨c.ml, 0, none⟩)] 56 (0, 0)) := hs.pr
  have o0 : w.heap[ob]? = some (.cells #[.int .i64 o.k, .int .i64 o.a, .int .i64 o.b, .int .i64 o.c, .int .i64 o.d, .int .i64 o.e, .int .i64 o.f, .string o.s, .string o.t, .string o.u] 30 (0, 0)) := hs.st.op
  obtain ⟨q0, q1, _⟩ := hs.cells
  have r0 : w.cell? ⟨ob, 0, none⟩ = some (.int .i64 o.k) := by simp [World.cell?, o0]
  have r1 : w.cell? ⟨ob, 1, none⟩ = some (.int .i64 o.a) := by simp [World.cell?, o0]
  have r2 : w.cell? ⟨ob, 2, none⟩ = some (.int .i64 o.b) := by simp [World.cell?, o0]
  have r3 : w.cell? ⟨ob, 3, none⟩ = some (.int .i64 o.c) := by simp [World.cell?, o0]
  have r4 : w.cell? ⟨ob, 4, none⟩ = some (.int .i64 o.d) := by simp [World.cell?, o0]
  have r5 : w.cell? ⟨ob, 5, none⟩ = some (.int .i64 o.e) := by simp [World.cell?, o0]
  have r6 : w.cell? ⟨ob, 6, none⟩ = some (.int .i64 o.f) := by simp [World.cell?, o0]
  have r7 : w.cell? ⟨ob, 7, none⟩ = some (.string o.s) := by simp [World.cell?, o0]
  have r8 : w.cell? ⟨ob, 8, none⟩ = some (.string o.t) := by simp [World.cell?, o0]
  have r9 : w.cell? ⟨ob, 9, none⟩ = some (.string o.u) := by simp [World.cell?, o0]
  clear h hs h9 h10 h11 h12 p0 o0
  unfold tM tB SS
  simp only [Tryz.f15, Option.getD, hd1, tl1, upd, Nat.reduceEqDiff, if_true, if_false]
  go_wp2_with (go_at_call 37; refine (sent_c (o := o) HK.out.1 HK.out.2.1 HK.out.2.2.1 HK.out.2.2.2).mono ?_; rintro e w1 ⟨rfl, hb1⟩; have HB1 := Lib.hid hb1; clear hb1)
  exact ⟨rfl, rfl, HS.out.st.law.refl' HS.out.st.ev HB1.out⟩
end
end Go.Proofs.YtkpekiajdlolnabGreat

/-
  SCAN's CONTRACT, by the law's words.
-/
namespace Go.Proofs.YtkpekiajdlolnabGreat.Ph
open Go.Conc Go.ConcN Go.RowKit Go.Maps Go Go.Proofs.YtkpekiajdlolnabGreat Go.Proofs.YtkpekiajdlolnabGreat.Sim

theorem tcut_cat (L : Nat → KV) (f : Bs × Bs → Bool) (most : Nat) : ∀ i, tcut most (fun i => ((L i).filter f).length) (fun i => flat ((L i).filter f)) i = (((cat L f i).take most).length, flat ((cat L f i).take most))
  | 0 => by simp [tcut, cat, flat_nil]
  | i + 1 => by
    simp only [tcut]
    rw [tcut_cat L f most i]
    simp only [cat]
    have e0 : most - ((cat L f i).take most).length = most - (cat L f i).length := by rw [List.length_take]; omega
    have e1 : ∀ j, ((L i).filter f).take (min ((L i).filter f).length j) = ((L i).filter f).take j := fun j => by
      rw [Nat.min_comm, ← List.take_take, List.take_length]
    rw [e0, flat_take, e1, List.take_append, flat_append]
    congr 1
    rw [List.length_append, List.length_take (i := most - _)]
    omega
theorem es_self {F : FuncId → Prop} {ρ : Rel} : ∀ {l : List MapEntry}, (∀ x ∈ l, ER F ρ x x) → EsR F ρ l l
  | [], _ => .nil
  | x :: l, h => .cons (h x (.head _)) (es_self fun y hy => h y (.tail _ hy))
theorem map_es {w : World} {mb : Nat} {L : KV} (h : MapKV w mb L) : ∃ p : Array MapEntry × Nat, w.heap[mb]? = some (.map p.1 p.2) ∧ (∀ (F : FuncId → Prop) ρ, EsR F ρ p.1.toList p.1.toList) ∧ ∀ wl : World, wl.heap[mb]? = some (.map p.1 p.2) → MapKV wl mb L := by
  obtain ⟨es, ck, h1, h2, h3⟩ := h
  refine ⟨(es, ck), h1, fun F ρ => es_self fun x hx => ?_, fun wl hwl => ⟨es, ck, hwl, h2, h3⟩⟩
  obtain ⟨y, hy⟩ := h2.reads x hx
  have hkey := WideElems.rd_key hy
  obtain ⟨s, hs⟩ := Maps.keyOf_string_inv Tryz.underlying9 hkey
  obtain ⟨ky, vl, bn⟩ := x
  subst hs
  refine ⟨.string s, ?_, rfl⟩
  unfold WideElems.rd at hy
  simp only [Option.bind_eq_some_iff, Option.map_eq_some_iff] at hy
  obtain ⟨_, _, z, hz, _⟩ := hy
  cases vl with
  | agg cs =>
    simp only [Rv] at hz
    split at hz
    · rename_i s' e
      obtain ⟨l⟩ := cs
      subst e
      exact .agg (.cons (.string s') .nil)
    · cases hz
  | _ => cases hz
section
variable {N : Blocks} {kv : List Value} {w : World} {cl : Nat} {db mb : Nat → Nat} {L : Nat → KV} {s t : ByteArray} {most : Nat}
theorem row_srow {w : World} {b : Nat} {v : Value} {l : KV} (h : RowKV w b v l) : SRow (fun _ => True) w v l.length (flat l) := by
  refine ⟨h.1.1, h.1.2.imp id ?_⟩
  rintro ⟨g, cap, cur, rfl, _, h2, h3, h4, h5, h6⟩
  obtain ⟨cur', ty', k1, k2⟩ := h.2 g rfl
  rw [h2] at k1
  cases k1
  exact ⟨g, cap, cur, rfl, trivial, h2, h3, h4, h6, k2⟩
theorem scan_yes (h : Clu w cl db mb L) (hdb : ∀ i, i < 4 → w.heap[db i]? = some (.cells #[.map (some (mb i))] 142 (0, 0))) (hris : ∀ i, i < 4 → Rising (L i)) (hkey : ∀ i, i < 4 → ∀ p ∈ L i, p.1.length ≤ 8) (hmost : most ≤ 9223372036854775807) (hN : ∀ b, N b → b < w.heap.size) :
    CCalls N kv fS #[.pointer (some ⟨cl, 0, none⟩), .string s, .string t, .int .i64 most] w fun v w' =>
      ∃ ov, v = .tuple #[ov, .int .i64 0] ∧ w'.ownsRow w.heap.size 74 2 ov ((cat L (inB s.data.toList t.data.toList) 4).take most).length (flat ((cat L (inB s.data.toList t.data.toList) 4).take most)) ∧ (∀ b, b < w.heap.size → w'.heap[b]? = w.heap[b]?) ∧ w.heap.size ≤ w'.heap.size ∧ w'.os = w.os ∧ w'.output = w.output := by
  have hc : ∀ i, ∃ p : Array MapEntry × Nat, i < 4 → w.heap[mb i]? = some (.map p.1 p.2) ∧ (∀ (F : FuncId → Prop) ρ, EsR F ρ p.1.toList p.1.toList) ∧ ∀ wl : World, wl.heap[mb i]? = some (.map p.1 p.2) → MapKV wl (mb i) (L i) := fun i => by
    by_cases hi : i < 4
    · obtain ⟨p, hp⟩ := map_es (h.p i hi).l
      exact ⟨p, fun _ => hp⟩
    · exact ⟨(#[], 0), fun hi' => absurd hi' hi⟩
  obtain ⟨es, hes⟩ := Classical.axiomOfChoice hc
  have ht := tcut_cat L (inB s.data.toList t.data.toList) most 4
  have := scan_calls (N := N) (kv := kv) (cl := cl) (db := db) (mb := mb) (es := fun i => (es i).1) (ck := fun i => (es i).2) (s := s) (t := t) (m := fun i => ((L i).filter (inB s.data.toList t.data.toList)).length) (rows := fun i => flat ((L i).filter (inB s.data.toList t.data.toList))) (w := w) (most := most)
    ⟨fun i hi => (h.p i hi).d, hdb, fun i hi => (hes i hi).1⟩ (fun i hi => (hes i hi).2.1) (fun i hi wl hd hm => by
      refine (pairs_c (w := wl) (db := db i) (mb := mb i) (L := L i) (by simp [World.cell?, hd]) ((hes i hi).2.2 wl hm) (hris i hi) (h.len i hi) (fun p hp => by have := hkey i hi p hp; unfold maxLen; omega) s t).mono ?_
      rintro e w' ⟨v, rfl, hr, _⟩
      exact row_srow hr) (fun i hi => by
      have h1 := h.len i hi
      have h2 : ((L i).filter (inB s.data.toList t.data.toList)).length ≤ (L i).length := List.length_filter_le _ _
      show ((L i).filter (inB s.data.toList t.data.toList)).length ≤ _
      omega) hmost hN
  rw [ht] at this
  exact this
end
end Go.Proofs.YtkpekiajdlolnabGreat.Ph

/-
  A STEP IN COMPANY, first text: a Scan of less than nothing; the operations about a Scan.
-/
namespace Go.Proofs.YtkpekiajdlolnabGreat.Ph
open Go.Conc Go.ConcN Go.RowKit Go.Maps Go.Conc.Lib Go Go.Proofs.YtkpekiajdlolnabGreat Go.Proofs.YtkpekiajdlolnabGreat.Sim

/-- out by 'return'. -/
def RetP (p : Act → World → Prop) : Exit → Act → World → Prop
  | .ret, a, w => p a w
  | _, _, _ => False
section
variable {cl : Nat} {s t : ByteArray} {most : Int} {w : World} {n : Nat} {N : Blocks} {kv : List Value}
theorem p1n_wp (h0 : most < 0) : Code.wp Tryz.prog P1 (RetP fun a w' => a.tmps.getD 8 undef = .slice none 0 0 ∧ a.tmps.getD 9 undef = .int .i64 7 ∧ a.defers = [] ∧ w' = w) ⟨S0 cl s t most n undef undef undef, []⟩ w := by
  unfold P1 sBody
  unfold S0
  simp only [Tryz.f27, Option.getD]
  have hd : decide (most < 0) = true := decide_eq_true h0
  clear h0
  go_wp2
  exact ⟨rfl, rfl, rfl, rfl⟩
set_option maxRecDepth 100000 in
theorem scan_no (h0 : most < 0) : CCalls N kv fS #[.pointer (some ⟨cl, 0, none⟩), .string s, .string t, .int .i64 most] w fun v w' => v = .tuple #[.slice none 0 0, .int .i64 7] ∧ (∀ b, b < w.heap.size → w'.heap[b]? = w.heap[b]?) ∧ w.heap.size ≤ w'.heap.size ∧ w'.os = w.os ∧ w'.output = w.output := by
  refine CRet.calls rfl (fun v w1 w2 s h => by rw [s.heap, s.os, s.output]; exact h) fun cs => ?_
  have he : Frame.enter XG.P fS #[.pointer (some ⟨cl, 0, none⟩), .string s, .string t, .int .i64 most] .normal = bS.at ⟨#[.pointer (some ⟨cl, 0, none⟩), .string s, .string t, .int .i64 most, undef, undef, undef, undef, undef, undef, undef, undef, undef, undef, undef, undef, undef, undef, undef, undef, undef, undef, undef, undef, undef, undef, undef, undef, undef, undef, undef, undef, undef, undef, undef, undef, undef, undef, undef, undef, undef, undef], []⟩ [.code sBody] := by
    show Frame.enter Tryz.prog fS _ .normal = _
    rw [enter_at _ Tryz.func27 (show Tryz.f27.body = some sBody from rfl)]
    have hn : Tryz.f27.ntmps = 42 := rfl
    rw [hn]
    simp only [List.size_toArray, List.length_cons, List.length_nil, Nat.reduceAdd, Nat.reduceSub, Array.replicate_succ, Array.replicate_zero, List.push_toArray, List.append_toArray, List.nil_append, List.cons_append]
    rfl
  rw [he, sBody_eq]
  refine CGo.seq ?_
  refine CGo.code rfl (Q := fun e a w' => e = .normal ∧ a = ⟨S0 cl s t most w.heap.size undef undef undef, []⟩ ∧ HE (H0 cl s t w) w w') okP0 (by rintro e a w ⟨rfl, _⟩; trivial) (fun e a w wc s h => ⟨h.1, h.2.1, h.2.2.same s⟩) (fun wc hs => ?_) ?_
  · refine p0_wp ⟨rfl, ?_, ?_⟩
    · rw [hs.heap]
    · refine ⟨?_, hs.os, hs.output⟩
      show ((wc.heap.push _).push _).push _ = _
      rw [hs.heap]; rfl
  rintro _ _ w1 fr ⟨rfl, rfl, hw1⟩ rfl
  refine CGo.seq ?_
  refine CGo.code rfl (Q := RetP fun a w' => a.tmps.getD 8 undef = .slice none 0 0 ∧ a.tmps.getD 9 undef = .int .i64 7 ∧ a.defers = [] ∧ HE (H0 cl s t w) w w') okP1 (fun e a w h => by cases e <;> first | trivial | exact h) (fun e a w wc s h => by cases e <;> first | exact h.elim | exact ⟨h.1, h.2.1, h.2.2.1, h.2.2.2.same s⟩) (fun wc hs => ?_) ?_
  · refine Code.wp_mono (fun e a w h => ?_) (p1n_wp h0)
    cases e <;> first | exact h | exact ⟨h.1, h.2.1, h.2.2.1, by rw [h.2.2.2]; exact hw1.same hs⟩
  intro e a w2 fr hq hl
  cases e <;> first | exact hq.elim | skip
  obtain ⟨h8, h9, hd, hw2⟩ := hq
  obtain ⟨todo, rfl⟩ := hl
  refine CGo.done fun wc hs => ⟨rfl, _, ⟨rfl, hd, rfl, _, Tryz.func27, fun w => ?_⟩, fun ρ _ => .tuple (.cons (.sliceNil 0 0) (.cons (.int .i64 7) .nil)), rfl, ?_, ?_⟩
  · have := res_scan (w := w) (T := a.tmps)
    rw [h8, h9] at this
    exact this
  · intro b hb
    rw [hs.heap, hw2.heap]
    unfold H0
    rw [Array.getElem?_push, if_neg (by simp; omega), Array.getElem?_push, if_neg (by simp; omega), Array.getElem?_push, if_neg (by omega)]
  · refine ⟨?_, hs.os.trans hw2.os, hs.output.trans hw2.output⟩
    rw [hs.heap, hw2.heap, H0_size]
    omega
end
abbrev fT : FuncId := 15
def bT : Frame := base fT
noncomputable def R24 : Array Oper := match tScan with | .seq a _ => rg a | _ => #[]
theorem tB_eq : tB = .seq tO (.seq tN (.seq tEm (.seq tP (.seq (.seq tR14 (.block 0 tK2)) (tl1 tM))))) := rfl
theorem tK2_eq : tK2 = .seq (hd1 tK2) (.cond (.tmp 85) tPut tK3) := rfl
theorem tK3_eq : tK3 = .seq (hd1 tK3) (.cond (.tmp 103) tDel tK4) := rfl
theorem tK4_eq : tK4 = .seq (hd1 tK4) (.cond (.tmp 117) tGet tK5) := rfl
theorem tK5_eq : tK5 = .seq (hd1 tK5) (.cond (.tmp 143) tScan tK6) := rfl
theorem tScan_eq : tScan = .seq (.region 24 R24 false) (tl1 tScan) := rfl
set_option maxRecDepth 100000 in
theorem SS_size (x : Nat → Value) : (SS x).size = 224 := by rw [SS_eq]; simp
theorem SS_get (x : Nat → Value) (i : Nat) (h : i < (SS x).size) : (SS x)[i] = x i := by
  simp [SS_eq]
theorem SS_set (x : Nat → Value) (j : Nat) (v : Value) : (SS x).setIfInBounds j v = SS (upd x j v) := by
  apply Array.ext
  · simp [SS_size]
  · intro i h1 h2
    have h3 : i < (SS x).size := by simpa using h1
    rw [Array.getElem_setIfInBounds h3, SS_get, SS_get]
    unfold upd
    by_cases e : j = i
    · subst e; simp
    · rw [if_neg e, if_neg (fun h => e h.symm)]
theorem SS_getD (x : Nat → Value) {j : Nat} (h : j < 224) : (SS x).getD j undef = x j := by
  have h2 : j < (SS x).size := by rw [SS_size]; exact h
  simp [Array.getD, h2, SS_get]
section
variable {x : Nat → Value} {w : World} {ob pb : Nat} {c : Cst} {o : OpV} {v a b : Value}
def OpJ (x : Nat → Value) (w : World) (j : Nat) (v : Value) : Exit → Act → World → Prop := fun e a w' => e = .normal ∧ a = ⟨SS (upd x j v), []⟩ ∧ w' = w
noncomputable def o24_0 : Oper := R24.getD 0 ⟨none, .alloc 0, 0, "", #[], none⟩
set_option maxRecDepth 100000 in
theorem w24_0 (h : x 9 = .pointer (some ⟨pb, 0, none⟩)) : (Code.region 0 #[bare o24_0] false).wp Tryz.prog (OpJ x w 146 (.pointer (some ⟨pb, 0, none⟩))) ⟨SS x, []⟩ w := by
  obtain ⟨x, rfl⟩ := upd_self h
  clear h
  unfold o24_0 R24 tScan tK5 tK4 tK3 tK2 tM tB SS
  simp only [Tryz.f15, Option.getD, hd1, tl1, c1, c2, blk, rg, bare, Array.getD, List.size_toArray, List.length_cons, List.length_nil, upd, Nat.reduceEqDiff, if_true, if_false]
  go_wp2
  exact ⟨rfl, rfl, rfl⟩
noncomputable def o24_1 : Oper := R24.getD 1 ⟨none, .alloc 0, 0, "", #[], none⟩
set_option maxRecDepth 100000 in
theorem w24_1 (h : x 146 = .pointer (some ⟨pb, 0, none⟩)) (hc : w.cell? ⟨pb, 0, none⟩ = some a) : (Code.region 0 #[bare o24_1] false).wp Tryz.prog (OpJ x w 147 (a)) ⟨SS x, []⟩ w := by
  obtain ⟨x, rfl⟩ := upd_self h
  clear h
  unfold o24_1 R24 tScan tK5 tK4 tK3 tK2 tM tB SS
  simp only [Tryz.f15, Option.getD, hd1, tl1, c1, c2, blk, rg, bare, Array.getD, List.size_toArray, List.length_cons, List.length_nil, upd, Nat.reduceEqDiff, if_true, if_false]
  go_wp2
  exact ⟨rfl, rfl, rfl⟩
noncomputable def o24_2 : Oper := R24.getD 2 ⟨none, .alloc 0, 0, "", #[], none⟩
set_option maxRecDepth 100000 in
theorem w24_2 (h : x 3 = .pointer (some ⟨ob, 0, none⟩)) : (Code.region 0 #[bare o24_2] false).wp Tryz.prog (OpJ x w 148 (.pointer (some ⟨ob, 7, none⟩))) ⟨SS x, []⟩ w := by
  obtain ⟨x, rfl⟩ := upd_self h
  clear h
  unfold o24_2 R24 tScan tK5 tK4 tK3 tK2 tM tB SS
  simp only [Tryz.f15, Option.getD, hd1, tl1, c1, c2, blk, rg, bare, Array.getD, List.size_toArray, List.length_cons, List.length_nil, upd, Nat.reduceEqDiff, if_true, if_false]
  go_wp2
  exact ⟨rfl, rfl, rfl⟩
noncomputable def o24_3 : Oper := R24.getD 3 ⟨none, .alloc 0, 0, "", #[], none⟩
set_option maxRecDepth 100000 in
theorem w24_3 (h : x 148 = .pointer (some ⟨ob, 7, none⟩)) (hc : w.cell? ⟨ob, 7, none⟩ = some a) : (Code.region 0 #[bare o24_3] false).wp Tryz.prog (OpJ x w 149 (a)) ⟨SS x, []⟩ w := by
  obtain ⟨x, rfl⟩ := upd_self h
  clear h
  unfold o24_3 R24 tScan tK5 tK4 tK3 tK2 tM tB SS
  simp only [Tryz.f15, Option.getD, hd1, tl1, c1, c2, blk, rg, bare, Array.getD, List.size_toArray, List.length_cons, List.length_nil, upd, Nat.reduceEqDiff, if_true, if_false]
  go_wp2
  exact ⟨rfl, rfl, rfl⟩
noncomputable def o24_4 : Oper := R24.getD 4 ⟨none, .alloc 0, 0, "", #[], none⟩
set_option maxRecDepth 100000 in
theorem w24_4 (h : x 3 = .pointer (some ⟨ob, 0, none⟩)) : (Code.region 0 #[bare o24_4] false).wp Tryz.prog (OpJ x w 150 (.pointer (some ⟨ob, 8, none⟩))) ⟨SS x, []⟩ w := by
  obtain ⟨x, rfl⟩ := upd_self h
  clear h
  unfold o24_4 R24 tScan tK5 tK4 tK3 tK2 tM tB SS
  simp only [Tryz.f15, Option.getD, hd1, tl1, c1, c2, blk, rg, bare, Array.getD, List.size_toArray, List.length_cons, List.length_nil, upd, Nat.reduceEqDiff, if_true, if_false]
  go_wp2
  exact ⟨rfl, rfl, rfl⟩
noncomputable def o24_5 : Oper := R24.getD 5 ⟨none, .alloc 0, 0, "", #[], none⟩
set_option maxRecDepth 100000 in
theorem w24_5 (h : x 150 = .pointer (some ⟨ob, 8, none⟩)) (hc : w.cell? ⟨ob, 8, none⟩ = some a) : (Code.region 0 #[bare o24_5] false).wp Tryz.prog (OpJ x w 151 (a)) ⟨SS x, []⟩ w := by
  obtain ⟨x, rfl⟩ := upd_self h
  clear h
  unfold o24_5 R24 tScan tK5 tK4 tK3 tK2 tM tB SS
  simp only [Tryz.f15, Option.getD, hd1, tl1, c1, c2, blk, rg, bare, Array.getD, List.size_toArray, List.length_cons, List.length_nil, upd, Nat.reduceEqDiff, if_true, if_false]
  go_wp2
  exact ⟨rfl, rfl, rfl⟩
noncomputable def o24_6 : Oper := R24.getD 6 ⟨none, .alloc 0, 0, "", #[], none⟩
set_option maxRecDepth 100000 in
theorem w24_6 (h : x 3 = .pointer (some ⟨ob, 0, none⟩)) : (Code.region 0 #[bare o24_6] false).wp Tryz.prog (OpJ x w 152 (.pointer (some ⟨ob, 2, none⟩))) ⟨SS x, []⟩ w := by
  obtain ⟨x, rfl⟩ := upd_self h
  clear h
  unfold o24_6 R24 tScan tK5 tK4 tK3 tK2 tM tB SS
  simp only [Tryz.f15, Option.getD, hd1, tl1, c1, c2, blk, rg, bare, Array.getD, List.size_toArray, List.length_cons, List.length_nil, upd, Nat.reduceEqDiff, if_true, if_false]
  go_wp2
  exact ⟨rfl, rfl, rfl⟩
noncomputable def o24_7 : Oper := R24.getD 7 ⟨none, .alloc 0, 0, "", #[], none⟩
set_option maxRecDepth 100000 in
theorem w24_7 (h : x 152 = .pointer (some ⟨ob, 2, none⟩)) (hc : w.cell? ⟨ob, 2, none⟩ = some a) : (Code.region 0 #[bare o24_7] false).wp Tryz.prog (OpJ x w 153 (a)) ⟨SS x, []⟩ w := by
  obtain ⟨x, rfl⟩ := upd_self h
  clear h
  unfold o24_7 R24 tScan tK5 tK4 tK3 tK2 tM tB SS
  simp only [Tryz.f15, Option.getD, hd1, tl1, c1, c2, blk, rg, bare, Array.getD, List.size_toArray, List.length_cons, List.length_nil, upd, Nat.reduceEqDiff, if_true, if_false]
  go_wp2
  exact ⟨rfl, rfl, rfl⟩
noncomputable def o24_9 : Oper := R24.getD 9 ⟨none, .alloc 0, 0, "", #[], none⟩
set_option maxRecDepth 100000 in
theorem w24_9 (h : x 154 = .tuple #[a, b]) : (Code.region 0 #[bare o24_9] false).wp Tryz.prog (OpJ x w 145 (.tuple #[a, b])) ⟨SS x, []⟩ w := by
  obtain ⟨x, rfl⟩ := upd_self h
  clear h
  unfold o24_9 R24 tScan tK5 tK4 tK3 tK2 tM tB SS
  simp only [Tryz.f15, Option.getD, hd1, tl1, c1, c2, blk, rg, bare, Array.getD, List.size_toArray, List.length_cons, List.length_nil, upd, Nat.reduceEqDiff, if_true, if_false]
  go_wp2
  exact ⟨rfl, rfl, rfl⟩
noncomputable def o24_10 : Oper := R24.getD 10 ⟨none, .alloc 0, 0, "", #[], none⟩
set_option maxRecDepth 100000 in
theorem w24_10 (h : x 145 = .tuple #[a, b]) : (Code.region 0 #[bare o24_10] false).wp Tryz.prog (OpJ x w 155 (a)) ⟨SS x, []⟩ w := by
  obtain ⟨x, rfl⟩ := upd_self h
  clear h
  unfold o24_10 R24 tScan tK5 tK4 tK3 tK2 tM tB SS
  simp only [Tryz.f15, Option.getD, hd1, tl1, c1, c2, blk, rg, bare, Array.getD, List.size_toArray, List.length_cons, List.length_nil, upd, Nat.reduceEqDiff, if_true, if_false]
  go_wp2
  exact ⟨rfl, rfl, rfl⟩
noncomputable def o24_11 : Oper := R24.getD 11 ⟨none, .alloc 0, 0, "", #[], none⟩
set_option maxRecDepth 100000 in
theorem w24_11 (h : x 145 = .tuple #[a, b]) : (Code.region 0 #[bare o24_11] false).wp Tryz.prog (OpJ x w 156 (b)) ⟨SS x, []⟩ w := by
  obtain ⟨x, rfl⟩ := upd_self h
  clear h
  unfold o24_11 R24 tScan tK5 tK4 tK3 tK2 tM tB SS
  simp only [Tryz.f15, Option.getD, hd1, tl1, c1, c2, blk, rg, bare, Array.getD, List.size_toArray, List.length_cons, List.length_nil, upd, Nat.reduceEqDiff, if_true, if_false]
  go_wp2
  exact ⟨rfl, rfl, rfl⟩
noncomputable def o24_12 : Oper := R24.getD 12 ⟨none, .alloc 0, 0, "", #[], none⟩
set_option maxRecDepth 100000 in
theorem w24_12 (h : x 155 = a) : (Code.region 0 #[bare o24_12] false).wp Tryz.prog (OpJ x w 14 (a)) ⟨SS x, []⟩ w := by
  obtain ⟨x, rfl⟩ := upd_self h
  clear h
  unfold o24_12 R24 tScan tK5 tK4 tK3 tK2 tM tB SS
  simp only [Tryz.f15, Option.getD, hd1, tl1, c1, c2, blk, rg, bare, Array.getD, List.size_toArray, List.length_cons, List.length_nil, upd, Nat.reduceEqDiff, if_true, if_false]
  go_wp2
  exact ⟨rfl, rfl, rfl⟩
noncomputable def o24_13 : Oper := R24.getD 13 ⟨none, .alloc 0, 0, "", #[], none⟩
set_option maxRecDepth 100000 in
theorem w24_13 (h : x 156 = a) : (Code.region 0 #[bare o24_13] false).wp Tryz.prog (OpJ x w 15 (a)) ⟨SS x, []⟩ w := by
  obtain ⟨x, rfl⟩ := upd_self h
  clear h
  unfold o24_13 R24 tScan tK5 tK4 tK3 tK2 tM tB SS
  simp only [Tryz.f15, Option.getD, hd1, tl1, c1, c2, blk, rg, bare, Array.getD, List.size_toArray, List.length_cons, List.length_nil, upd, Nat.reduceEqDiff, if_true, if_false]
  go_wp2
  exact ⟨rfl, rfl, rfl⟩
end
end Go.Proofs.YtkpekiajdlolnabGreat.Ph

/-
  A STEP IN COMPANY, second text: the walk.
-/
namespace Go.Proofs.YtkpekiajdlolnabGreat.Ph
open Go.Conc Go.ConcN Go.RowKit Go.Maps Go.Conc.Lib Go Go.Proofs.YtkpekiajdlolnabGreat Go.Proofs.YtkpekiajdlolnabGreat.Sim

theorem But.same' {B : Nat → Prop} {w wc : World} (s : Same w wc) : But B w wc := ⟨by rw [s.heap]; exact Nat.le_refl _, fun k _ _ => by rw [s.heap], s.os, s.output⟩
theorem res_step {w : World} {T : Array Value} : (results Tryz.f15 T).runT Tryz.prog w #[] = (.ok (T.getD 4 undef) w, #[]) := by
  have e : Tryz.f15.results = #[.tmp 4] := rfl
  simp [results, e, go_sem]
section
variable {N : Blocks} {kv : List Value} {ks cs1 : List Frame} {Z : Frame → World → Prop} {K : List Item} {x : Nat → Value} {w0 w w1 w2 : World} {n0 W n ob pb k : Nat} {cs : List Cst} {c : Cst} {o : OpV}
theorem stepPost_same (h : StepPost n0 w W n cs w1) (s : Same w1 w2) : StepPost n0 w W n cs w2 := by
  obtain ⟨n', cs', h1, h2, h3, h4, h5⟩ := h
  exact ⟨n', cs', h1.idle (But.same' s), h2, h3, h4, h5.trans (But.same' s)⟩
/-- a piece that returns. -/
theorem CGo.retp {c : Code} (hok : codeOk XG.P XG.P fb true c = true) (hpre : But (fun b => n0 ≤ b) w0 w) (hp : ∀ wc, Same w wc → c.wp Tryz.prog (RetT (StepPost n0 wc W n cs)) ⟨SS x, []⟩ wc) :
    CGo N kv ks (bT.at ⟨SS x, []⟩ (.code c :: K)) w ks (Ret fT fun v w' => v = .bool true ∧ StepPost n0 w0 W n cs w') := by
  refine CGo.code rfl (Q := RetT (StepPost n0 w0 W n cs)) hok (fun e a w h => by cases e <;> first | trivial | exact h) (fun e a w1 wc s h => by cases e <;> first | exact h.elim | exact ⟨h.1, h.2.1, stepPost_same h.2.2 s⟩) (fun wc hs => ?_) ?_
  · refine Code.wp_mono (fun e a w1 h => ?_) (hp wc hs)
    cases e <;> first | exact h | exact ⟨h.1, h.2.1, h.2.2.pre (hpre.trans (But.same' hs))⟩
  intro e a w2 fr hq hl
  cases e <;> first | exact hq.elim | skip
  obtain ⟨h4, hd, hP⟩ := hq
  obtain ⟨todo, rfl⟩ := hl
  exact CGo.done fun wc hs => ⟨rfl, _, ⟨rfl, hd, rfl, _, Tryz.func15, fun w => by
    have := res_step (w := w) (T := a.tmps)
    rw [h4] at this
    exact this⟩, fun ρ _ => .bool true, rfl, stepPost_same hP hs⟩
/-- a piece that goes on. -/
theorem CGo.jn {c : Code} {R : (Nat → Value) → World → Prop} (hok : codeOk XG.P XG.P fb true c = true) (hR : ∀ x w wc, Same w wc → R x w → R x wc) (hp : ∀ wc, Same w wc → c.wp Tryz.prog (Jn R) ⟨SS x, []⟩ wc)
    (nx : ∀ x' w', R x' w' → CGo N kv ks (bT.at ⟨SS x', []⟩ K) w' cs1 Z) : CGo N kv ks (bT.at ⟨SS x, []⟩ (.code c :: K)) w cs1 Z := by
  refine CGo.code rfl (Q := Jn R) hok (fun e a w h => by cases e <;> first | trivial | exact h) (fun e a w1 wc s h => by cases e <;> first | exact h.elim | exact ⟨h.choose, h.choose_spec.1, hR _ _ _ s h.choose_spec.2⟩) hp ?_
  intro e a w2 fr hq hl
  cases e <;> first | exact hq.elim | skip
  obtain ⟨x', rfl, hr⟩ := hq
  cases hl
  exact nx x' w2 hr
theorem Jn.mono {R R' : (Nat → Value) → World → Prop} (h : ∀ x w, R x w → R' x w) {e : Exit} {a : Act} {w : World} (q : Jn R e a w) : Jn R' e a w := by
  cases e <;> first | exact q | exact ⟨q.choose, q.choose_spec.1, h _ _ q.choose_spec.2⟩
theorem CGo.opj {i j : Nat} {td : List Nat} {o : Oper} {v : Value} (ho : R24[i]? = some o) (hg : o.guard = none) (hok : okOp XG.P XG.P fb true (bare o) = true) (hp : ∀ wc, Same w wc → (Code.region 0 #[bare o] false).wp Tryz.prog (OpJ x wc j v) ⟨SS x, []⟩ wc)
    (nx : ∀ w', Same w w' → CGo N kv ks (bT.at ⟨SS (upd x j v), []⟩ (.inRegion R24 td :: K)) w' cs1 Z) : CGo N kv ks (bT.at ⟨SS x, []⟩ (.inRegion R24 (i :: td) :: K)) w cs1 Z := by
  refine CGo.op rfl (Q := fun a w' => a = ⟨SS (upd x j v), []⟩ ∧ Same w w') 0 ho hok (by unfold Region.wanted; rw [hg]) (fun a w1 wc s h => ⟨h.1, h.2.trans s⟩) (fun wc hs => Code.wp_mono (fun e a w1 h => ⟨h.1, h.2.1, ?_⟩) (hp wc hs)) ?_
  · rw [h.2.2]; exact hs
  rintro _ w' ⟨rfl, hs⟩
  exact nx w' hs
theorem cat_len {L : Nat → KV} {f : Bs × Bs → Bool} (h : ∀ i, i < 4 → (L i).length ≤ 12) : (cat L f 4).length ≤ 48 := by
  have key : ∀ i, i < 4 → ((L i).filter f).length ≤ 12 := fun i hi => Nat.le_trans (List.length_filter_le _ _) (h i hi)
  have h0 := key 0 (by decide)
  have h1 := key 1 (by decide)
  have h2 := key 2 (by decide)
  have h3 := key 3 (by decide)
  simp only [cat, List.length_append, List.length_nil]
  omega
theorem scan_any (h : SwW n0 w W n cs ob pb k o c) (hb : -9223372036854775808 ≤ o.b ∧ o.b ≤ 9223372036854775807) (hN : ∀ b, N b → b < w.heap.size) :
    CCalls N kv fS #[.pointer (some ⟨c.cl, 0, none⟩), .string o.s, .string o.t, .int .i64 o.b] w fun v w' =>
      ∃ ov er l, v = .tuple #[ov, .int .i64 er] ∧ w'.ownsRow w.heap.size 74 2 ov l.length (flat l) ∧ l.length ≤ 48 ∧ But (fun _ => False) w w' ∧ ∀ w1, SwW n0 w1 W n cs ob pb k o c → DocScan w1 c o l er := by
  rcases Int.lt_or_le o.b 0 with hneg | hpos
  · refine (scan_no hneg).mono ?_
    rintro v w' ⟨rfl, h1, h2, h3, h4⟩
    refine ⟨_, _, [], rfl, World.ownsRow_nil _ _ _ _, by simp, ⟨h2, fun b hb _ => h1 b hb, h3, h4⟩, fun w1 hw1 => ?_⟩
    refine (rscan_no o.s o.t o.b hneg).mono ?_
    rintro e w2 ⟨rfl, rfl⟩
    exact ⟨_, 0, rfl, World.ownsRow_nil _ _ _ _, Below.refl _ _⟩
  · obtain ⟨m, hm⟩ : ∃ m : Nat, o.b = m := ⟨o.b.toNat, by omega⟩
    rw [hm]
    have hm2 : m ≤ 9223372036854775807 := by omega
    refine (scan_yes h.cst.clu h.cst.tdb (fun i hi => (h.cst.ris i hi).1) h.cst.key hm2 hN).mono ?_
    rintro v w' ⟨ov, rfl, h1, h2, h3, h4, h5⟩
    refine ⟨ov, _, _, rfl, h1, Nat.le_trans (by rw [List.length_take]; exact Nat.min_le_right _ _) (cat_len h.cst.clu.len), ⟨h3, fun b hb _ => h2 b hb, h4, h5⟩, fun w1 hw1 => ?_⟩
    obtain ⟨lv, hmd⟩ := hw1.cst.mdl
    unfold DocScan
    rw [hm]
    refine (rscan_yes hmd hw1.cst.len o.s o.t hm2).mono ?_
    rintro e w2 ⟨v', rfl, hr, hbb⟩
    refine ⟨v', w1.heap.size, rfl, ?_, hbb⟩
    rw [← hw1.e] at hr
    exact hr.1

/-- a step's bounds. -/
structure OpV.Ok (o : OpV) : Prop where
  k : -9223372036854775808 ≤ o.k ∧ o.k ≤ 9223372036854775807
  a : -9223372036854775808 ≤ o.a ∧ o.a ≤ 9223372036854775807
  b : -9223372036854775808 ≤ o.b ∧ o.b ≤ 9223372036854775807
  c : -9223372036854775808 ≤ o.c ∧ o.c ≤ 9223372036854775807
  d : -9223372036854775808 ≤ o.d ∧ o.d ≤ 9223372036854775807
  e : -9223372036854775808 ≤ o.e ∧ o.e ≤ 9223372036854775807
  f : -9223372036854775808 ≤ o.f ∧ o.f ≤ 9223372036854775807
  s : o.s.size ≤ 140737488355328
  t : o.t.size ≤ 140737488355328
  u : o.u.size ≤ 140737488355328
theorem OpV.Ok.s' {o : OpV} (h : OpV.Ok o) : o.s.size ≤ maxLen := by have := h.s; unfold maxLen; omega
theorem evCall {pc pm : Value} {a b : Value} (h1 : x 147 = pc) (h2 : x 149 = a) (h3 : x 151 = b) (h4 : x 153 = pm) : ∀ w, (execOp (Act.mk (SS x) []).eval (R24.getD 8 ⟨none, .alloc 0, 0, "", #[], none⟩)).run XG.P w = .ok (.enter fS #[pc, a, b, pm]) w ∧ (execOp (Act.mk (SS x) []).eval (R24.getD 8 ⟨none, .alloc 0, 0, "", #[], none⟩)).events XG.P w #[] = #[] := by
  intro w
  have b1 : (Act.mk (SS x) []).eval (.tmp 147) = pc := (SS_getD x (by decide)).trans h1
  have b2 : (Act.mk (SS x) []).eval (.tmp 149) = a := (SS_getD x (by decide)).trans h2
  have b3 : (Act.mk (SS x) []).eval (.tmp 151) = b := (SS_getD x (by decide)).trans h3
  have b4 : (Act.mk (SS x) []).eval (.tmp 153) = pm := (SS_getD x (by decide)).trans h4
  have b5 : (Act.mk (SS x) []).eval (.func fS) = .func (.func fS) #[] #[] := rfl
  obtain ⟨ty, hop⟩ : ∃ ty, (R24.getD 8 ⟨none, .alloc 0, 0, "", #[], none⟩).op = .call { callee := .value (.func fS), args := #[.tmp 147, .tmp 149, .tmp 151, .tmp 153], argTypes := ty } := ⟨_, rfl⟩
  show (execOp _ _).run Tryz.prog w = _ ∧ (execOp _ _).events Tryz.prog w #[] = _
  have hf := Tryz.func27
  generalize (R24.getD 8 ⟨none, .alloc 0, 0, "", #[], none⟩) = o at *
  generalize (Act.mk (SS x) []).eval = e at *
  have hx : execOp e o = callFunc fS #[pc, a, b, pm] := by unfold execOp; simp [go_sem, hop, resolve, invoke, b1, b2, b3, b4, b5]
  rw [hx]
  constructor
  · simp [callFunc, go_sem, hf, Tryz.f27]
  · simp [callFunc, go_sem, hf, Tryz.f27]
end
end Go.Proofs.YtkpekiajdlolnabGreat.Ph

/-
  BLIND FRAMES, fourth text: 'small'. Its walk is printed by program (gen_small.py).
-/
namespace Go.Proofs.YtkpekiajdlolnabGreat.Ph
open Go.Conc Go.ConcN Go.RowKit Go.Maps Go.Conc.Lib Go Go.Proofs.YtkpekiajdlolnabGreat Go.Proofs.YtkpekiajdlolnabGreat.Sim

abbrev fM : FuncId := 10
def bM : Frame := base fM
theorem bM_bl : blG bM.fn = true := rfl
theorem bM_k : bM.kind ≠ .early := by decide
noncomputable def mB : Code := (Tryz.f10.body).getD .skip
noncomputable def mL : Code := match mB with | .seq _ (.seq _ (.seq (.seq _ (.block _ (.loop c))) _)) => c | _ => .skip
noncomputable def mI : Code := match mL with | .seq _ (.seq _ (.seq (.block _ c) _)) => c | _ => .skip
noncomputable def M0 : Array Oper := match mB with | .seq a _ => rg a | _ => #[]
noncomputable def M1 : Array Oper := match mB with | .seq _ (.seq a _) => rg a | _ => #[]
noncomputable def M2 : Array Oper := match mB with | .seq _ (.seq _ (.seq (.seq a _) _)) => rg a | _ => #[]
noncomputable def M9 : Array Oper := match mB with | .seq _ (.seq _ (.seq _ (.seq a _))) => rg a | _ => #[]
noncomputable def M3 : Array Oper := match mL with | .seq a _ => rg a | _ => #[]
noncomputable def M8 : Array Oper := match mL with | .seq _ (.seq _ (.seq _ a)) => rg a | _ => #[]
noncomputable def M4 : Array Oper := match mI with | .seq a _ => rg a | _ => #[]
noncomputable def M5 : Array Oper := match mI with | .seq _ (.seq a _) => rg a | _ => #[]
noncomputable def M6 : Array Oper := match mI with | .seq _ (.seq _ (.seq a _)) => rg a | _ => #[]
noncomputable def M7 : Array Oper := match mI with | .seq _ (.seq _ (.seq _ (.cond _ (.seq a _) _))) => rg a | _ => #[]
theorem mB_eq : mB = .seq (.region 0 M0 false) (.seq (.region 1 M1 false) (.seq (.seq (.region 2 M2 false) (.block 0 (.loop mL))) (.seq (.region 9 M9 false) .ret))) := rfl
theorem mL_eq : mL = .seq (.region 3 M3 false) (.seq (.cond (.tmp 11) .skip (.exit 0)) (.seq (.block 1 mI) (.region 8 M8 false))) := rfl
theorem mI_eq : mI = .seq (.region 4 M4 false) (.seq (.region 5 M5 false) (.seq (.region 6 M6 false) (.cond (.tmp 28) (.seq (.region 7 M7 false) .ret) .skip))) := rfl

/-- the script: its steps lie in blocks that were there before the law began. -/
structure ScriptAt (n0 : Nat) (w : World) (sp : Option Addr) (L : Nat) (os : Nat → OpV) : Prop where
  at' : 0 < L → ∃ g o0, sp = some ⟨g, o0, none⟩ ∧ g < n0 ∧ g < w.heap.size ∧ ∀ i, i < L → ∀ (j : Nat) v, (os i).cells.toList[j]? = some v → w.cell? ⟨g, o0 + i * 10 + j, none⟩ = some v
  ok : ∀ i, i < L → OpV.Ok (os i)
  len : L ≤ 140737488355328
theorem ScriptAt.but {n0 L : Nat} {w w' : World} {sp : Option Addr} {os : Nat → OpV} (h : ScriptAt n0 w sp L os) (hb : But (fun b => n0 ≤ b) w w') : ScriptAt n0 w' sp L os := by
  refine ⟨fun hL => ?_, h.ok, h.len⟩
  obtain ⟨g, o0, h1, h2, h3, h4⟩ := h.at' hL
  refine ⟨g, o0, h1, h2, Nat.lt_of_lt_of_le h3 hb.size, fun i hi j v hj => ?_⟩
  exact (World.cell?_of_block (hb.keep g h3 (by omega))).trans (h4 i hi j v hj)
set_option maxRecDepth 100000 in
theorem aggOp : ∀ (w : World) (es : Array Event), (isAgg 30).runT XG.P w es = (.ok true w, es) := fun w es => by
  have hu := Tryz.underlying30
  show (isAgg _).runT Tryz.prog w es = _
  simp [isAgg, go_sem, Sem.runT_eq, hu]
set_option maxRecDepth 100000 in
theorem opInfo : (Tryz.prog.info? 30).map (fun i => (i.zero, i.size)) = some (some (.agg #[.int .i64 0, .int .i64 0, .int .i64 0, .int .i64 0, .int .i64 0, .int .i64 0, .int .i64 0, .string ⟨#[]⟩, .string ⟨#[]⟩, .string ⟨#[]⟩]), 10) := by kernel_rfl
set_option maxRecDepth 100000 in
theorem szOp : ∀ (w : World) (es : Array Event), (sizeOf 30).runT XG.P w es = (.ok 10 w, es) := fun w es => by
  obtain ⟨i, h1, h2⟩ := Option.map_eq_some_iff.1 opInfo
  injection h2 with _ h3
  show (sizeOf _).runT Tryz.prog w es = _
  simp [sizeOf, typeInfo, go_sem, Sem.runT_eq, h1, h3]
theorem zeroOp (w : World) : (zeroValue 30).run Tryz.prog w = .ok (.agg #[.int .i64 0, .int .i64 0, .int .i64 0, .int .i64 0, .int .i64 0, .int .i64 0, .int .i64 0, .string ⟨#[]⟩, .string ⟨#[]⟩, .string ⟨#[]⟩]) w := (zero_of_info opInfo).1 w
theorem sizeOp : (Tryz.prog.info? 30).map (·.size) = some 10 := (zero_of_info opInfo).2
theorem opVR (o : OpV) (F : FuncId → Prop) (ρ : Rel) : VR F ρ (.agg o.cells.toList.toArray) (.agg o.cells.toList.toArray) :=
  .agg (.cons (.int _ _) (.cons (.int _ _) (.cons (.int _ _) (.cons (.int _ _) (.cons (.int _ _) (.cons (.int _ _) (.cons (.int _ _) (.cons (.string _) (.cons (.string _) (.cons (.string _) .nil))))))))))
theorem noAggS (w : World) : (isAgg 9).run Tryz.prog w = .ok false w := by
  have hu := Tryz.underlying9
  simp [isAgg, go_sem, hu]
theorem noAggI (w : World) : (isAgg 3).run Tryz.prog w = .ok false w := by
  have hu := Tryz.underlying3
  simp [isAgg, go_sem, hu]
section
variable {N : Blocks} {kv : List Value} {cs cs1 : List Frame} {w : World} {Z : Frame → World → Prop} {K : List Item} {n i j : Nat} {x : Nat → Value}
/-- a return. -/
theorem CGo.retv {f : FuncId} {fn : Func} {R : Value → World → Prop} {v : Value} (hf : XG.P.funcs[f]? = some fn) (hres : ∀ w, (results fn (lay n x)).runT XG.P w #[] = (.ok v w, #[])) (hvr : ∀ ρ, VR XG.F ρ v v) (hR : ∀ wc, Same w wc → R v wc) :
    CGo N kv cs ((base f).at ⟨lay n x, []⟩ (.code .ret :: K)) w cs (Ret f R) :=
  CGo.ret fun wc hs => ⟨rfl, v, ⟨rfl, rfl, rfl, fn, hf, hres⟩, fun ρ _ => hvr ρ, hR wc hs⟩
theorem res_small : ∀ {x : Nat → Value} {v : Value}, x 2 = v → ∀ w, (results Tryz.f10 (lay 32 x)).runT XG.P w #[] = (.ok v w, #[]) := fun {x v} h w => by
  have e : Tryz.f10.results = #[.tmp 2] := rfl
  have e2 : (lay 32 x)[2]? = some v := by rw [lay_get (by decide), h]
  show (results _ _).runT Tryz.prog w #[] = _
  simp [results, e, go_sem, Array.getD_eq_getD_getElem?, e2]
end
section
variable {N : Blocks} {kv : List Value} {cs cs1 : List Frame} {w : World} {Z : Frame → World → Prop} {K : List Item} {x : Nat → Value} {sp : Option Addr} {L cp i ob n0 : Nat} {m : Int} {o : OpV}
theorem m0 (h0 : x 0 = .slice sp L cp)  (nx : ∀ y : Nat → Value, y 0 = .slice sp L cp → CGo N kv cs (bM.at ⟨lay 32 y, []⟩ K) w cs1 Z) : CGo N kv cs (bM.at ⟨lay 32 x, []⟩ (.code (.region 0 M0 false) :: K)) w cs1 Z := by
  refine CGo.region ?_
  change CGo N kv cs (bM.at ⟨lay 32 x, []⟩ (.inRegion M0 [0] :: K)) w cs1 Z
  refine CGo.bv bM_bl bM_k (.bool false) rfl rfl (wanted_none rfl) (Pure.assign rfl rfl) ?_
  exact CGo.regionEnd (nx _ h0)
theorem m1 (h0 : x 0 = .slice sp L cp)  (nx : ∀ y : Nat → Value, y 0 = .slice sp L cp → y 3 = .int .i64 L → CGo N kv cs (bM.at ⟨lay 32 y, []⟩ K) w cs1 Z) : CGo N kv cs (bM.at ⟨lay 32 x, []⟩ (.code (.region 1 M1 false) :: K)) w cs1 Z := by
  refine CGo.region ?_
  change CGo N kv cs (bM.at ⟨lay 32 x, []⟩ (.inRegion M1 [0, 1, 2] :: K)) w cs1 Z
  refine CGo.bv bM_bl bM_k (.slice sp L cp) rfl rfl (wanted_none rfl) (Pure.move rfl (tmp (by decide) h0)) ?_
  refine CGo.bv bM_bl bM_k (.int .i64 L) rfl rfl (wanted_none rfl) (Pure.lenL rfl (tmp (by decide) rfl)) ?_
  refine CGo.bv bM_bl bM_k (.int .i64 L) rfl rfl (wanted_none rfl) (Pure.assign rfl (tmp (by decide) rfl)) ?_
  exact CGo.regionEnd (nx _ h0 rfl)
theorem m2 (h0 : x 0 = .slice sp L cp) (h3 : x 3 = .int .i64 L)  (nx : ∀ y : Nat → Value, y 3 = .int .i64 L → y 8 = .slice sp L cp → y 9 = .int .i64 L → y 10 = .int .i64 (0 : Nat) → CGo N kv cs (bM.at ⟨lay 32 y, []⟩ K) w cs1 Z) : CGo N kv cs (bM.at ⟨lay 32 x, []⟩ (.code (.region 2 M2 false) :: K)) w cs1 Z := by
  refine CGo.region ?_
  change CGo N kv cs (bM.at ⟨lay 32 x, []⟩ (.inRegion M2 [0, 1, 2] :: K)) w cs1 Z
  refine CGo.bv bM_bl bM_k (.slice sp L cp) rfl rfl (wanted_none rfl) (Pure.move rfl (tmp (by decide) h0)) ?_
  refine CGo.bv bM_bl bM_k (.int .i64 L) rfl rfl (wanted_none rfl) (Pure.lenL rfl (tmp (by decide) rfl)) ?_
  refine CGo.bv bM_bl bM_k (.int .i64 0) rfl rfl (wanted_none rfl) (Pure.move rfl rfl) ?_
  exact CGo.regionEnd (nx _ h3 rfl rfl rfl)
theorem m3 (h3 : x 3 = .int .i64 m) (h8 : x 8 = .slice sp L cp) (h9 : x 9 = .int .i64 L) (h10 : x 10 = .int .i64 i) {t : Bool} (ht : decide ((i : Int) < L) = t) (nx : ∀ y : Nat → Value, y 3 = .int .i64 m → y 8 = .slice sp L cp → y 9 = .int .i64 L → y 10 = .int .i64 i → y 11 = .bool t → CGo N kv cs (bM.at ⟨lay 32 y, []⟩ K) w cs1 Z) : CGo N kv cs (bM.at ⟨lay 32 x, []⟩ (.code (.region 3 M3 false) :: K)) w cs1 Z := by
  refine CGo.region ?_
  change CGo N kv cs (bM.at ⟨lay 32 x, []⟩ (.inRegion M3 [0] :: K)) w cs1 Z
  refine CGo.bv bM_bl bM_k (.bool t) rfl rfl (wanted_none rfl) (Pure.lss rfl (tmp (by decide) h10) (tmp (by decide) h9) ht) ?_
  exact CGo.regionEnd (nx _ h3 h8 h9 h10 rfl)
theorem m4 {g o0 : Nat} (h3 : x 3 = .int .i64 m) (h8 : x 8 = .slice (some ⟨g, o0, none⟩) L cp) (h9 : x 9 = .int .i64 L) (h10 : x 10 = .int .i64 i) (hi : i < L) (hN : N g) (hlt : g < w.heap.size) (hc : ∀ (j : Nat) v, o.cells.toList[j]? = some v → w.cell? ⟨g, o0 + i * 10 + j, none⟩ = some v)
    (nx : ∀ y : Nat → Value, y 3 = .int .i64 m → y 8 = .slice (some ⟨g, o0, none⟩) L cp → y 9 = .int .i64 L → y 10 = .int .i64 i → y 5 = .pointer (some ⟨w.heap.size, 0, none⟩) → CGo N (.pointer (some ⟨w.heap.size, 0, none⟩) :: kv) cs (bM.at ⟨lay 32 y, []⟩ K) (w.alloc (.cells o.cells 30)) cs1 Z) :
    CGo N kv cs (bM.at ⟨lay 32 x, []⟩ (.code (.region 4 M4 false) :: K)) w cs1 Z := by
  refine CGo.region ?_
  change CGo N kv cs (bM.at ⟨lay 32 x, []⟩ (.inRegion M4 [0, 1, 2, 3] :: K)) w cs1 Z
  refine CGo.bv bM_bl bM_k (.pointer (some ⟨g, o0 + i * 10, none⟩)) rfl rfl (wanted_none rfl) (Pure.idx rfl (tmp (by decide) h8) (tmp (by decide) h10) hi) ?_
  refine CGo.look (l := o.cells.toList) bM_bl bM_k rfl rfl (wanted_none rfl) (tmp (by decide) rfl) hN aggOp szOp hlt (fun j v hj => by rw [Addr.add_lit]; exact hc j v hj) (fun ρ => opVR o _ ρ) ?_
  change CGo N kv cs (bM.at ⟨(lay 32 _).setIfInBounds 13 _, []⟩ _) w cs1 Z
  rw [lay_set]
  refine CGo.balloc bM_bl bM_k rfl rfl rfl (wanted_none rfl) (by kernel_rfl) zeroOp ?_
  refine CGo.bstore (w0 := w) (z := [.int .i64 0, .int .i64 0, .int .i64 0, .int .i64 0, .int .i64 0, .int .i64 0, .int .i64 0, .string ⟨#[]⟩, .string ⟨#[]⟩, .string ⟨#[]⟩]) (l := o.cells.toList) bM_bl bM_k rfl rfl rfl (wanted_none rfl) (by decide) rfl (by decide) rfl (.head _) (fun ρ => opVR o _ ρ) rfl sizeOp rfl rfl ?_
  exact CGo.regionEnd (nx _ h3 h8 h9 h10 rfl)
theorem m5 (h3 : x 3 = .int .i64 m) (h5 : x 5 = .pointer (some ⟨ob, 0, none⟩)) (h8 : x 8 = .slice sp L cp) (h9 : x 9 = .int .i64 L) (h10 : x 10 = .int .i64 i) (hkv : .pointer (some ⟨ob, 0, none⟩) ∈ kv) (c7 : w.cell? ⟨ob, 7, none⟩ = some (.string o.s)) (c8 : w.cell? ⟨ob, 8, none⟩ = some (.string o.t)) (c9 : w.cell? ⟨ob, 9, none⟩ = some (.string o.u)) (hm : 0 ≤ m) (hm2 : m ≤ 4611686018427387904) (hs : o.s.size ≤ 281474976710656) (ht : o.t.size ≤ 281474976710656) (hu : o.u.size ≤ 281474976710656) (nx : ∀ y : Nat → Value, y 3 = .int .i64 (m + (o.s.size + o.t.size + o.u.size)) → y 8 = .slice sp L cp → y 9 = .int .i64 L → y 10 = .int .i64 i → CGo N kv cs (bM.at ⟨lay 32 y, []⟩ K) w cs1 Z) : CGo N kv cs (bM.at ⟨lay 32 x, []⟩ (.code (.region 5 M5 false) :: K)) w cs1 Z := by
  refine CGo.region ?_
  change CGo N kv cs (bM.at ⟨lay 32 x, []⟩ (.inRegion M5 [0, 1, 2, 3, 4, 5, 6, 7, 8, 9, 10, 11, 12, 13] :: K)) w cs1 Z
  refine CGo.bv bM_bl bM_k (.int .i64 m) rfl rfl (wanted_none rfl) (Pure.move rfl (tmp (by decide) h3)) ?_
  refine CGo.bv bM_bl bM_k (.pointer (some ⟨ob, 7, none⟩)) rfl rfl (wanted_none rfl) (Pure.fOp 7 (by decide) rfl (tmp (by decide) h5)) ?_
  refine CGo.bload bM_bl bM_k rfl rfl rfl (wanted_none rfl) (by decide) rfl hkv noAggS c7 ?_
  refine CGo.bv bM_bl bM_k (.int .i64 o.s.size) rfl rfl (wanted_none rfl) (Pure.lenS rfl (tmp (by decide) rfl)) ?_
  refine CGo.bv bM_bl bM_k (.pointer (some ⟨ob, 8, none⟩)) rfl rfl (wanted_none rfl) (Pure.fOp 8 (by decide) rfl (tmp (by decide) h5)) ?_
  refine CGo.bload bM_bl bM_k rfl rfl rfl (wanted_none rfl) (by decide) rfl hkv noAggS c8 ?_
  refine CGo.bv bM_bl bM_k (.int .i64 o.t.size) rfl rfl (wanted_none rfl) (Pure.lenS rfl (tmp (by decide) rfl)) ?_
  refine CGo.bv bM_bl bM_k (.int .i64 (o.s.size + o.t.size)) rfl rfl (wanted_none rfl) (Pure.add rfl (tmp (by decide) rfl) (tmp (by decide) rfl) (by omega) (by omega)) ?_
  refine CGo.bv bM_bl bM_k (.pointer (some ⟨ob, 9, none⟩)) rfl rfl (wanted_none rfl) (Pure.fOp 9 (by decide) rfl (tmp (by decide) h5)) ?_
  refine CGo.bload bM_bl bM_k rfl rfl rfl (wanted_none rfl) (by decide) rfl hkv noAggS c9 ?_
  refine CGo.bv bM_bl bM_k (.int .i64 o.u.size) rfl rfl (wanted_none rfl) (Pure.lenS rfl (tmp (by decide) rfl)) ?_
  refine CGo.bv bM_bl bM_k (.int .i64 (o.s.size + o.t.size + o.u.size)) rfl rfl (wanted_none rfl) (Pure.add rfl (tmp (by decide) rfl) (tmp (by decide) rfl) (by omega) (by omega)) ?_
  refine CGo.bv bM_bl bM_k (.int .i64 (m + (o.s.size + o.t.size + o.u.size))) rfl rfl (wanted_none rfl) (Pure.add rfl (tmp (by decide) rfl) (tmp (by decide) rfl) (by omega) (by omega)) ?_
  refine CGo.bv bM_bl bM_k (.int .i64 (m + (o.s.size + o.t.size + o.u.size))) rfl rfl (wanted_none rfl) (Pure.assign rfl (tmp (by decide) rfl)) ?_
  exact CGo.regionEnd (nx _ rfl h8 h9 h10)
theorem m6 (h3 : x 3 = .int .i64 m) (h8 : x 8 = .slice sp L cp) (h9 : x 9 = .int .i64 L) (h10 : x 10 = .int .i64 i) {t : Bool} (ht : decide (262144 < m) = t) (nx : ∀ y : Nat → Value, y 3 = .int .i64 m → y 8 = .slice sp L cp → y 9 = .int .i64 L → y 10 = .int .i64 i → y 28 = .bool t → CGo N kv cs (bM.at ⟨lay 32 y, []⟩ K) w cs1 Z) : CGo N kv cs (bM.at ⟨lay 32 x, []⟩ (.code (.region 6 M6 false) :: K)) w cs1 Z := by
  refine CGo.region ?_
  change CGo N kv cs (bM.at ⟨lay 32 x, []⟩ (.inRegion M6 [0, 1] :: K)) w cs1 Z
  refine CGo.bv bM_bl bM_k (.int .i64 m) rfl rfl (wanted_none rfl) (Pure.move rfl (tmp (by decide) h3)) ?_
  refine CGo.bv bM_bl bM_k (.bool t) rfl rfl (wanted_none rfl) (Pure.gtr rfl (tmp (by decide) rfl) rfl ht) ?_
  exact CGo.regionEnd (nx _ h3 h8 h9 h10 rfl)
theorem m7   (nx : ∀ y : Nat → Value, y 2 = .bool false → CGo N kv cs (bM.at ⟨lay 32 y, []⟩ K) w cs1 Z) : CGo N kv cs (bM.at ⟨lay 32 x, []⟩ (.code (.region 7 M7 false) :: K)) w cs1 Z := by
  refine CGo.region ?_
  change CGo N kv cs (bM.at ⟨lay 32 x, []⟩ (.inRegion M7 [0] :: K)) w cs1 Z
  refine CGo.bv bM_bl bM_k (.bool false) rfl rfl (wanted_none rfl) (Pure.assign rfl rfl) ?_
  exact CGo.regionEnd (nx _ rfl)
theorem m8 (h3 : x 3 = .int .i64 m) (h8 : x 8 = .slice sp L cp) (h9 : x 9 = .int .i64 L) (h10 : x 10 = .int .i64 i) (hi : i ≤ 4611686018427387904) (nx : ∀ y : Nat → Value, y 3 = .int .i64 m → y 8 = .slice sp L cp → y 9 = .int .i64 L → y 10 = .int .i64 (i + 1 : Int) → CGo N kv cs (bM.at ⟨lay 32 y, []⟩ K) w cs1 Z) : CGo N kv cs (bM.at ⟨lay 32 x, []⟩ (.code (.region 8 M8 false) :: K)) w cs1 Z := by
  refine CGo.region ?_
  change CGo N kv cs (bM.at ⟨lay 32 x, []⟩ (.inRegion M8 [0, 1] :: K)) w cs1 Z
  refine CGo.bv bM_bl bM_k (.int .i64 (i + 1 : Int)) rfl rfl (wanted_none rfl) (Pure.add rfl (tmp (by decide) h10) rfl (by omega) (by omega)) ?_
  refine CGo.bv bM_bl bM_k (.int .i64 (i + 1 : Int)) rfl rfl (wanted_none rfl) (Pure.move rfl (tmp (by decide) rfl)) ?_
  exact CGo.regionEnd (nx _ h3 h8 h9 rfl)
theorem m9 (h3 : x 3 = .int .i64 m) {t : Bool} (ht : decide (m ≤ 262144) = t) (nx : ∀ y : Nat → Value, y 2 = .bool t → CGo N kv cs (bM.at ⟨lay 32 y, []⟩ K) w cs1 Z) : CGo N kv cs (bM.at ⟨lay 32 x, []⟩ (.code (.region 9 M9 false) :: K)) w cs1 Z := by
  refine CGo.region ?_
  change CGo N kv cs (bM.at ⟨lay 32 x, []⟩ (.inRegion M9 [0, 1, 2] :: K)) w cs1 Z
  refine CGo.bv bM_bl bM_k (.int .i64 m) rfl rfl (wanted_none rfl) (Pure.move rfl (tmp (by decide) h3)) ?_
  refine CGo.bv bM_bl bM_k (.bool t) rfl rfl (wanted_none rfl) (Pure.leq rfl (tmp (by decide) rfl) rfl ht) ?_
  refine CGo.bv bM_bl bM_k (.bool t) rfl rfl (wanted_none rfl) (Pure.assign rfl (tmp (by decide) rfl)) ?_
  exact CGo.regionEnd (nx _ rfl)
/-- the loop. -/
theorem m_loop {os : Nat → OpV} {w0 : World} {R : Value → World → Prop} (hN : ∀ g, g < n0 → N g) (hS : ScriptAt n0 w0 sp L os) (hn0 : n0 ≤ w0.heap.size) (hR : ∀ (t : Bool) w', (t = true → L ≤ 262144) → But (fun _ => False) w0 w' → R (.bool t) w') :
    ∀ (d i : Nat) (m : Int) (x : Nat → Value) (kv : List Value) (w : World), d = L - i → i ≤ L → (L : Int) ≤ m → m ≤ 4611686018427387904 → (m = L ∨ m ≤ 262144) → But (fun _ => False) w0 w → x 3 = .int .i64 m → x 8 = .slice sp L cp → x 9 = .int .i64 L → x 10 = .int .i64 i →
      CGo N kv cs (bM.at ⟨lay 32 x, []⟩ (.code mL :: .inLoop mL :: .inBlock 0 :: .code (.seq (.region 9 M9 false) .ret) :: K)) w cs (Ret fM R) := by
  intro d
  induction d with
  | zero =>
    intro i m x kv w hd hi hLm hm hm2 hb h3 h8 h9 h10
    rw [mL_eq]
    refine CGo.seq (m3 h3 h8 h9 h10 (t := false) (decide_eq_false (by omega)) fun y y3 y8 y9 y10 y11 => ?_)
    refine CGo.seq (CGo.bcond (by decide) y11 ?_)
    refine CGo.exit (k' := .code (.seq (.region 9 M9 false) .ret) :: K) rfl ?_
    refine CGo.seq (m9 y3 rfl fun z z2 => ?_)
    refine CGo.retv Tryz.func10 (res_small z2) (fun ρ => .bool _) fun wc s => hR _ _ (fun ht => ?_) (hb.trans (But.same' s))
    have := of_decide_eq_true ht
    omega
  | succ d ih =>
    intro i m x kv w hd hi hLm hm hm2 hb h3 h8 h9 h10
    have hlen := hS.len
    have hil : i < L := by omega
    obtain ⟨g, o0, rfl, hg, hgw, hcell⟩ := hS.at' (by omega)
    have hok := hS.ok i hil
    rw [mL_eq]
    refine CGo.seq (m3 h3 h8 h9 h10 (t := true) (decide_eq_true (by omega)) fun y y3 y8 y9 y10 y11 => ?_)
    refine CGo.seq (CGo.bcond (by decide) y11 ?_)
    refine CGo.skip ?_
    refine CGo.seq (CGo.block ?_)
    rw [mI_eq]
    refine CGo.seq ?_
    refine m4 (o := os i) y3 y8 y9 y10 hil (hN g hg) (Nat.lt_of_lt_of_le hgw hb.size) (fun j v hj => (World.cell?_of_block (hb.keep g hgw id)).trans (hcell i hil j v hj)) fun z z3 z8 z9 z10 z5 => ?_
    have hb2 : But (fun _ => False) w0 (w.alloc (.cells (os i).cells 30)) := hb.trans (But.of_below ((Below.refl _ _).alloc (Nat.le_refl _) _))
    have hblk := heap_alloc_new w (.cells (os i).cells 30)
    have c7 : (w.alloc (.cells (os i).cells 30)).cell? ⟨w.heap.size, 7, none⟩ = some (.string (os i).s) := by unfold World.cell?; rw [hblk]; rfl
    have c8 : (w.alloc (.cells (os i).cells 30)).cell? ⟨w.heap.size, 8, none⟩ = some (.string (os i).t) := by unfold World.cell?; rw [hblk]; rfl
    have c9 : (w.alloc (.cells (os i).cells 30)).cell? ⟨w.heap.size, 9, none⟩ = some (.string (os i).u) := by unfold World.cell?; rw [hblk]; rfl
    have s1 := hok.s
    have s2 := hok.t
    have s3 := hok.u
    have hmb : m ≤ 281474976710656 := by omega
    refine CGo.seq (m5 z3 z5 z8 z9 z10 (.head _) c7 c8 c9 (by omega) hm (by omega) (by omega) (by omega) fun a a3 a8 a9 a10 => ?_)
    refine CGo.seq ?_
    by_cases hbig : 262144 < m + ((os i).s.size + (os i).t.size + (os i).u.size)
    · refine m6 a3 a8 a9 a10 (t := true) (decide_eq_true hbig) fun c c3 c8 c9 c10 c28 => ?_
      refine CGo.bcond (by decide) c28 ?_
      refine CGo.seq (m7 fun e e2 => ?_)
      exact CGo.retv Tryz.func10 (res_small e2) (fun ρ => .bool _) fun wc s => hR _ _ (fun ht => by cases ht) (hb2.trans (But.same' s))
    · refine m6 a3 a8 a9 a10 (t := false) (decide_eq_false hbig) fun c c3 c8 c9 c10 c28 => ?_
      refine CGo.bcond (by decide) c28 ?_
      refine CGo.skip (CGo.inBlock ?_)
      refine m8 c3 c8 c9 c10 (by omega) fun e e3 e8 e9 e10 => ?_
      refine CGo.inLoop ?_
      exact ih (i + 1) _ e _ _ (by omega) (by omega) (by omega) (by omega) (.inr (by omega)) hb2 e3 e8 e9 (by rw [e10]; rfl)
end
section
variable {kv : List Value} {w : World} {sp : Option Addr} {L cp n0 : Nat} {os : Nat → OpV} {N : Blocks}
theorem arg0 (v : Value) (t : Array Value) : (#[v] ++ t).getD 0 undef = v := by
  rw [Array.getD_eq_getD_getElem?, Array.getElem?_append_left (by simp)]; rfl
theorem enter_small {v : Value} : Frame.enter XG.P fM #[v] .normal = bM.at ⟨lay 32 (fun i => (#[v] ++ Array.replicate 31 undef).getD i undef), []⟩ [.code mB] := by
  show Frame.enter Tryz.prog fM _ .normal = _
  rw [enter_at _ Tryz.func10 (show Tryz.f10.body = some mB from rfl)]
  have hn : Tryz.f10.ntmps = 32 := rfl
  rw [hn, lay_of (by simp)]
  rfl
/-- 'small': true of a script of at most so many steps. -/
theorem small_c (hN : ∀ g, g < n0 → N g) (hS : ScriptAt n0 w sp L os) (hn0 : n0 ≤ w.heap.size) : CRet N kv fM #[.slice sp L cp] w fun v w' => ∃ t, v = .bool t ∧ (t = true → L ≤ 262144) ∧ But (fun _ => False) w w' := fun ks => by
  rw [enter_small, mB_eq]
  refine CGo.seq (m0 (sp := sp) (L := L) (cp := cp) (arg0 _ _) fun y y0 => ?_)
  refine CGo.seq (m1 y0 fun z z0 z3 => ?_)
  refine CGo.seq (CGo.seq (m2 z0 z3 fun a a3 a8 a9 a10 => ?_))
  refine CGo.block (CGo.loop ?_)
  have hl := hS.len
  exact m_loop hN hS hn0 (fun t w' h1 h2 => ⟨t, rfl, h1, h2⟩) (L - 0) 0 L a _ _ rfl (Nat.zero_le _) (Int.le_refl _) (by omega) (.inl rfl) (But.refl _ _) a3 a8 a9 a10
end
end Go.Proofs.YtkpekiajdlolnabGreat.Ph

/-
  BLIND FRAMES, fifth text: calls of class functions; 'stage'.
-/
namespace Go.Proofs.YtkpekiajdlolnabGreat.Ph
open Go.Conc Go.ConcN Go.RowKit Go.Maps Go.Conc.Lib Go Go.Proofs.YtkpekiajdlolnabGreat Go.Proofs.YtkpekiajdlolnabGreat.Sim

section
variable {N : Blocks} {kv : List Value} {cs cs1 : List Frame} {w : World} {Z : Frame → World → Prop} {b : Frame} {k : List Item} {n i j : Nat} {x : Nat → Value} {ops : Array Oper} {td : List Nat} {o : Oper}
theorem wanted_undef {g j : Nat} {t : Bool} {og : Oper} (h : o.guard = some (g, t)) (hg : ops[g]? = some og) (hd : og.dst = some j) (hj : j < n) (hx : x j = undef) : Region.wanted o (yielded ops (lay n x)) = false := by
  unfold Region.wanted
  rw [h]
  have : yielded ops (lay n x) g = none := by
    unfold yielded
    rw [hg]
    simp only [Option.bind_some, hd, lay_get hj, hx]
    rfl
  simp only [this]
  rfl
/-- a call of a class function out of a blind frame. -/
theorem CGo.callC {f : FuncId} {fn : Func} {args : Array Value} {R : Value → World → Prop} (ho : ops[i]? = some o) (hd : o.dst = some j) (hw : Region.wanted o (yielded ops (lay n x)) = true) (hk : b.kind ≠ .early)
    (ev : ∀ w, (execOp (evx n x) o).run XG.P w = .ok (.enter f args) w ∧ (execOp (evx n x) o).events XG.P w #[] = #[]) (hf : XG.P.funcs[f]? = some fn)
    (hargs : ∀ ρ, (∀ v ∈ kv, VR XG.F ρ v v) → VsR XG.F ρ args.toList args.toList)
    (hcall : CCalls N kv f args w R) (nx : ∀ v w', R v w' → CGo N kv cs (b.at ⟨lay n (upd x j v), []⟩ (.inRegion ops td :: k)) w' cs1 Z) : CGo N kv cs (b.at ⟨lay n x, []⟩ (.inRegion ops (i :: td) :: k)) w cs1 Z := by
  refine CGo.call ho hw hk ev hf (fun ρ _ hK _ => hargs ρ hK) hcall fun v w' hr => ?_
  rw [hd]
  show CGo N kv cs (b.at ⟨(lay n x).setIfInBounds j v, []⟩ _) w' cs1 Z
  rw [lay_set]
  exact nx v w' hr
theorem ev_call {e : Operand → Value} {f : FuncId} {ars : Array Operand} {vs : Array Value} {tys : Array TypeId} (hop : o.op = .call { callee := .value (.func f), args := ars, argTypes := tys }) (hfun : e (.func f) = .func (.func f) #[] #[]) (ha : ars.toList.map e = vs.toList)
    (hc : ∀ w, (callFunc f vs).run Tryz.prog w = .ok (.enter f vs) w ∧ (callFunc f vs).events Tryz.prog w #[] = #[]) : ∀ w, (execOp e o).run XG.P w = .ok (.enter f vs) w ∧ (execOp e o).events XG.P w #[] = #[] := fun w => by
  have ha' : ars.map e = vs := by apply Array.ext'; simpa using ha
  have hx : execOp e o = callFunc f vs := by
    unfold execOp
    simp [go_sem, hop, resolve, invoke, hfun, ha']
  rw [hx]
  exact hc w
/-- one result, which stands in a slot. -/
theorem res_one {fn : Func} {r : Nat} (h : fn.results = #[.tmp r]) (T : Array Value) (w : World) : (results fn T).runT Tryz.prog w #[] = (.ok (T.getD r undef) w, #[]) := by
  simp [results, h, go_sem]
theorem CCalls.of1 {f : FuncId} {fn : Func} {args : Array Value} {R : Value → World → Prop} {r : Nat} (hbl : blG f = false) (hfb : fb f = true) (hfn : XG.P.funcs[f]? = some fn) (h : fn.results = #[.tmp r]) (hS : ∀ v w wc, Same w wc → R v w → R v wc)
    (hc : ∀ wc, Same w wc → Calls XG.P f args wc fun | .returned v, w' => R v w' | _, _ => False) : CCalls N kv f args w R :=
  CCalls.of hbl hfb hfn (fun T => ⟨_, fun w => res_one h T w⟩) (fun ρ T v w hT hr => by
    have := congrArg Prod.fst (res_one h T w)
    rw [Sem.runT_fst] at this
    have e : (results fn T).run XG.P w = .ok (T.getD r undef) w := this
    rw [hr] at e
    cases e
    exact hT.agetD r) hS hc
end
def stageN (k : Int) : Int := if k ≤ 5 then 1 else if k ≤ 9 then 2 else if k = 10 ∨ k = 12 then 3 else 4
set_option maxRecDepth 100000 in
theorem stage_c (w : World) (k : Int) : Calls Tryz.prog 14 #[.int .i64 k] w fun e w' => (e = .returned (.int .i64 (stageN k)) ∧ w' = w) := by
  by_cases h5 : k ≤ 5
  · rw [show stageN k = 1 by unfold stageN; rw [if_pos h5]]
    exact stage_le k h5
  have g1 : decide (k ≤ 5) = false := decide_eq_false h5
  by_cases h9 : k ≤ 9
  · have g2 : decide (k ≤ 9) = true := decide_eq_true h9
    rw [show stageN k = 2 by unfold stageN; rw [if_neg h5, if_pos h9]]
    clear h5 h9
    go_enter Tryz.func14, Tryz.ntmps14
    go_wp2
    go_ret
    exact ⟨rfl, rfl⟩
  have g2 : decide (k ≤ 9) = false := decide_eq_false h9
  by_cases h10 : k = 10
  · subst h10
    rw [show stageN 10 = 3 from rfl]
    clear h5 h9
    go_enter Tryz.func14, Tryz.ntmps14
    go_wp2
    go_ret
    exact ⟨rfl, rfl⟩
  by_cases h12 : k = 12
  · subst h12
    rw [show stageN 12 = 3 from rfl]
    clear h5 h9 h10
    go_enter Tryz.func14, Tryz.ntmps14
    go_wp2
    go_ret
    exact ⟨rfl, rfl⟩
  rw [show stageN k = 4 by unfold stageN; rw [if_neg h5, if_neg h9, if_neg (by omega)]]
  have g3 : decide (k = 10) = false := decide_eq_false h10
  have g4 : decide (k = 12) = false := decide_eq_false h12
  have g5 : (k == 10) = false := by simpa using h10
  have g6 : (k == 12) = false := by simpa using h12
  clear h5 h9 h10 h12
  go_enter Tryz.func14, Tryz.ntmps14
  go_wp2
  go_ret
  exact ⟨rfl, rfl⟩
section
variable {N : Blocks} {kv : List Value} {w : World}
abbrev fSt : FuncId := 14
theorem stage_cc (k : Int) : CCalls N kv fSt #[.int .i64 k] w fun v w' => v = .int .i64 (stageN k) ∧ Same w w' :=
  CCalls.of1 (r := 2) rfl rfl Tryz.func14 rfl (fun v w1 wc s h => ⟨h.1, h.2.trans s⟩) fun wc s => (stage_c wc k).mono fun e w' ⟨h1, h2⟩ => by subst h1; subst h2; exact ⟨rfl, s⟩
theorem stage_call (vs : Array Value) (w : World) : (callFunc fSt vs).run Tryz.prog w = .ok (.enter fSt vs) w ∧ (callFunc fSt vs).events Tryz.prog w #[] = #[] := by
  have hf := Tryz.func14
  constructor <;> simp [callFunc, go_sem, hf, Tryz.f14]
abbrev fT' : FuncId := 15
theorem step_call (vs : Array Value) (w : World) : (callFunc fT vs).run Tryz.prog w = .ok (.enter fT vs) w ∧ (callFunc fT vs).events Tryz.prog w #[] = #[] := by
  have hf := Tryz.func15
  constructor <;> simp [callFunc, go_sem, hf, Tryz.f15]
abbrev fLk : FuncId := 16
theorem looks_call (vs : Array Value) (w : World) : (callFunc fLk vs).run Tryz.prog w = .ok (.enter fLk vs) w ∧ (callFunc fLk vs).events Tryz.prog w #[] = #[] := by
  have hf := Tryz.func16
  constructor <;> simp [callFunc, go_sem, hf, Tryz.f16]
end
end Go.Proofs.YtkpekiajdlolnabGreat.Ph
