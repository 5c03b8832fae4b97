/-
  PROVED IN PARTS: text 8 of 10 of the carrying ground of the claim (see each part's own remark). Conditions: those that each theorem names.
-/
import Derived.Test.YtkpekiajdlolnabGreatM07
import Derived.Laws.IdiomStrings
import Derived.Shelf.SlIter.Nil
import Derived.Shelf.SortM.Plain
import Derived.Shelf.SortM.SortNone
import Derived.Ground.GgzProg
import Derived.Ground.SlgmProg
import Derived.Sort.KeysCollected
import Derived.Sort.Walk0
import Derived.Deep.AppendLies
import Derived.Deep.RegionLaw
import Derived.Deep.RegionWith
import Derived.Carry
set_option linter.unusedVariables false
set_option linter.unusedSimpArgs false

/-
  CONTRACTS OF THE LAW's OWN FUNCTIONS (lone), second text: mark, mine.
-/
namespace Go.Proofs.YtkpekiajdlolnabGreat
open Go.RowKit Go.Maps

section
variable {n0 : Nat} {CS : Value} {w : World}
/-- a list's mark. -/
def mnK : ByteArray := ⟨#[109, 105, 110, 101]⟩
def mnV (k : Nat) : ByteArray := ⟨#[UInt8.ofNat (k % 256), UInt8.ofNat (k / 256 % 256), UInt8.ofNat (k / 65536 % 256)]⟩
set_option maxRecDepth 100000 in
theorem mark_c (k : Nat) (hk : k ≤ 4398046511104) : Calls Tryz.prog 38 #[.int .i64 k] w fun e w' => (∃ a b : ByteArray, (a = mnK ∧ b = mnV k) ∧ e = .returned (.agg #[.string a, .string b])) ∧ Below w.heap.size w w' := by
  obtain ⟨a0, h0, g0⟩ : ∃ b : UInt8, (b.toNat : Int) = (k : Int) % 256 ∧ UInt8.ofNat (k % 256) = b := ⟨UInt8.ofNat (k % 256), by simp, rfl⟩
  obtain ⟨a1, h1, g1⟩ : ∃ b : UInt8, (b.toNat : Int) = (k : Int) / 256 % 256 ∧ UInt8.ofNat (k / 256 % 256) = b := ⟨UInt8.ofNat (k / 256 % 256), by simp, rfl⟩
  obtain ⟨a2, h2, g2⟩ : ∃ b : UInt8, (b.toNat : Int) = (k : Int) / 65536 % 256 ∧ UInt8.ofNat (k / 65536 % 256) = b := ⟨UInt8.ofNat (k / 65536 % 256), by simp, rfl⟩
  have hm : (⟨#[a0, a1, a2]⟩ : ByteArray) = mnV k := by unfold mnV; rw [g0, g1, g2]
  have HM := Lib.hid hm
  clear g0 g1 g2 hm
  have hcv : (convert 139 9 (.slice (some ⟨w.heap.size + 1, 0, none⟩) 3 3)).run Tryz.prog ((w.alloc (.cells #[.string ⟨#[]⟩, .string ⟨#[]⟩] 74)).alloc (.cells #[.int .u8 ((k : Int) % 256), .int .u8 ((k : Int) / 256 % 256), .int .u8 ((k : Int) / 65536 % 256)] 5)) = .ok (.string ⟨#[a0, a1, a2]⟩) _ :=
    run_convert_bytes_back (P := Tryz.prog) _ 139 9 5 ⟨w.heap.size + 1, 0, none⟩ 3 [a0, a1, a2] Tryz.underlying139 Tryz.underlying5 Tryz.underlying9 (fun j hj => by
      rw [Addr.add_lit, Nat.zero_add]
      match j, hj with
      | 0, _ => rw [show ([a0, a1, a2][0].toNat : Int) = _ from h0]; go_simp
      | 1, _ => rw [show ([a0, a1, a2][1].toNat : Int) = _ from h1]; go_simp
      | 2, _ => rw [show ([a0, a1, a2][2].toNat : Int) = _ from h2]; go_simp)
  clear h0 h1 h2
  go_enter Tryz.func38, Tryz.ntmps38
  go_wp2
  refine bodyPost_ret (v := .agg #[.string ⟨#[109, 105, 110, 101]⟩, .string ⟨#[a0, a1, a2]⟩]) (by simp [results, Tryz.results38, go_sem]) rfl ⟨⟨_, _, ⟨rfl, HM.out⟩, rfl⟩, ((Below.refl _ _).alloc (Nat.le_refl _) _).alloc (by simp) _⟩
/-- the lists that stand in a list of lists. -/
def heldOf (w : World) : Value → List Value
  | .slice (some a) n _ => match w.heap[a.block]? with
    | some (.cells cur _ _) => cur.toList.take n
    | _ => []
  | _ => []
def HeldB (w : World) (S : Value) (g : Nat) : Prop := ∃ l ∈ heldOf w S, l.ownBlock = some g
theorem heldOf_row {S : Value} {b n : Nat} {ty : TypeId} {xs : List Value} (h : w.ownsRow b ty 1 S n xs) : heldOf w S = xs := by
  rcases h.2 with ⟨rfl, hz⟩ | ⟨g, cap, cur, rfl, _, h2, _, _, _, h6⟩
  · have : xs = [] := List.length_eq_zero_iff.1 (by rw [h.1, hz])
    rw [this]; rfl
  · show (match w.heap[g]? with | some (.cells cur _ _) => cur.toList.take n | _ => []) = xs
    rw [h2, ← h6, Nat.mul_one]
theorem heldOf_block {w' : World} {S : Value} (h : ∀ g, S.ownBlock = some g → w'.heap[g]? = w.heap[g]?) : heldOf w' S = heldOf w S := by
  cases S with
  | slice p n c =>
    cases p with
    | none => rfl
    | some a =>
      show (match w'.heap[a.block]? with | some (.cells cur _ _) => cur.toList.take n | _ => []) = (match w.heap[a.block]? with | some (.cells cur _ _) => cur.toList.take n | _ => [])
      rw [h a.block rfl]
  | _ => rfl
/-- a list that was handed out as the k-th: all of it is marked. -/
def ListAt (w : World) (k : Nat) (l : Value) : Prop := ∃ m ys, w.ownsRow 0 74 2 l m ys ∧ ∀ i, i < m → ys[i * 2]? = some (.string mnK) ∧ ys[i * 2 + 1]? = some (.string (mnV k))
/-- the law's world: the lists that were handed out. -/
structure LsAt (n0 : Nat) (w : World) (W : Nat) (CS S : Value) (n : Nat) : Prop where
  b : ∃ cur, w.heap[W]? = some (.cells cur 36 (0, 0)) ∧ cur[2]? = some S ∧ cur[0]? = some CS ∧ cur[3]? = some (.bool false)
  row : ∃ xs, w.ownsRow n0 47 1 S n xs
  kept : ∀ k l, (heldOf w S)[k]? = some l → ListAt w k l
theorem LsAt.held_ty {W : Nat} {S : Value} {n : Nat} (h : LsAt n0 w W CS S n) {g : Nat} (hg : HeldB w S g) : ∃ cur, w.heap[g]? = some (.cells cur 74 (0, 0)) := by
  obtain ⟨l, hl, e⟩ := hg
  obtain ⟨k, hk⟩ := List.mem_iff_getElem?.1 hl
  obtain ⟨m, ys, hr, _⟩ := h.kept k l hk
  rcases hr.2 with ⟨rfl, _⟩ | ⟨g', cap, cur, rfl, _, h2, _⟩
  · cases e
  · cases e; exact ⟨cur, h2⟩
theorem LsAt.cell {W : Nat} {S : Value} {n : Nat} (h : LsAt n0 w W CS S n) : w.cell? ⟨W, 2, none⟩ = some S ∧ w.frozen? ⟨W, 2, none⟩ = false ∧ W < w.heap.size := by
  obtain ⟨cur, h1, h2, h2b⟩ := h.b
  exact ⟨by simp [World.cell?, h1, h2], by simp [World.frozen?, h1], (Array.getElem?_eq_some_iff.1 h1).1⟩
theorem ownsRow_block {w w' : World} {base n size : Nat} {ty : TypeId} {v : Value} {xs : List Value} (h : w.ownsRow base ty size v n xs) (k : ∀ g, v.ownBlock = some g → w'.heap[g]? = w.heap[g]?) : w'.ownsRow base ty size v n xs := by
  refine ⟨h.1, h.2.imp id ?_⟩
  rintro ⟨g, cap, cur, rfl, h1, h2, h3⟩
  exact ⟨g, cap, cur, rfl, h1, (k g rfl).trans h2, h3⟩
theorem LsAt.block {w w' : World} {W : Nat} {S : Value} {n : Nat} (h : LsAt n0 w W CS S n) (hW : w'.heap[W]? = w.heap[W]?) (hS : ∀ g, S.ownBlock = some g → w'.heap[g]? = w.heap[g]?) (hL : ∀ g, HeldB w S g → w'.heap[g]? = w.heap[g]?) : LsAt n0 w' W CS S n := by
  obtain ⟨cur, h1, h2, h2b⟩ := h.b
  obtain ⟨xs, h3⟩ := h.row
  refine ⟨⟨cur, hW.trans h1, h2, h2b⟩, ⟨xs, ownsRow_block h3 hS⟩, fun k l hk => ?_⟩
  rw [heldOf_block hS] at hk
  obtain ⟨m, ys, hr, hm⟩ := h.kept k l hk
  exact ⟨m, ys, ownsRow_block hr fun g hg => hL g ⟨l, List.mem_of_getElem? hk, hg⟩, hm⟩
theorem row_ty {w : World} {base n size : Nat} {ty : TypeId} {v : Value} {xs : List Value} (h : w.ownsRow base ty size v n xs) {g : Nat} (hg : v.ownBlock = some g) : ∃ cur, w.heap[g]? = some (.cells cur ty (0, 0)) := by
  rcases h.2 with ⟨rfl, _⟩ | ⟨g', cap, cur, rfl, _, h2, _⟩
  · cases hg
  · cases hg; exact ⟨cur, h2⟩
/-- which blocks 'mine' writes. -/
def MineB (W : Nat) (S l : Value) (b : Nat) : Prop := b = W ∨ S.ownBlock = some b ∨ l.ownBlock = some b
/-- the loop's standing. -/
structure MnW (n0 : Nat) (CS : Value) (w0 : World) (W n m base g cap k : Nat) (S : Value) (x y : ByteArray) (j : Nat) (w : World) : Prop where
  ls : LsAt n0 w W CS S n
  row : ∃ xs, w.ownsRow base 74 2 (.slice (some ⟨g, 0, none⟩) m cap) m xs ∧ ∀ i, i < j → xs[i * 2]? = some (.string x) ∧ xs[i * 2 + 1]? = some (.string y)
  new : ∀ g', HeldB w S g' → g' ≠ g
  mrk : w.heap[k]? = some (.cells #[.string x, .string y] 74 (0, 0))
  gk : g < k
  but : But (MineB W S (.slice (some ⟨g, 0, none⟩) m cap)) w0 w
section
variable {w0 : World} {W n m base g cap k : Nat} {S : Value} {x y : ByteArray}
theorem MnW.cells (j : Nat) (h : MnW n0 CS w0 W n m base g cap k S x y j w) (hj : j < m) : (∃ v, w.cell? ⟨g, j * 2, none⟩ = some v) ∧ (∃ v, w.cell? ⟨g, j * 2 + 1, none⟩ = some v) ∧ w.frozen? ⟨g, j * 2, none⟩ = false ∧ w.frozen? ⟨g, j * 2 + 1, none⟩ = false ∧ w.cell? ⟨k, 0, none⟩ = some (.string x) ∧ w.cell? ⟨k, 1, none⟩ = some (.string y) := by
  obtain ⟨xs, h1, _⟩ := h.row
  rcases h1.2 with ⟨e, _⟩ | ⟨g', cap', cur, e, _, h2, h3, _, h5, _⟩
  · cases e
  · injection e with e1 e2 e3
    injection e1 with e1
    injection e1 with e1
    subst e1; subst e3
    have a1 : j * 2 < cur.size := by omega
    have a2 : j * 2 + 1 < cur.size := by omega
    exact ⟨⟨cur[j * 2], by simp [World.cell?, h2, a1]⟩, ⟨cur[j * 2 + 1], by simp [World.cell?, h2, a2]⟩, by simp [World.frozen?, h2], by simp [World.frozen?, h2], by simp [World.cell?, h.mrk], by simp [World.cell?, h.mrk]⟩
theorem MnW.stored (j : Nat) (h : MnW n0 CS w0 W n m base g cap k S x y j w) (hj : j < m) : MnW n0 CS w0 W n m base g cap k S x y (j + 1) ((w.setCell ⟨g, j * 2, none⟩ (.string x)).setCell ⟨g, j * 2 + 1, none⟩ (.string y)) := by
  obtain ⟨xs, h1, hmk⟩ := h.row
  rcases h1.2 with ⟨e, _⟩ | ⟨g', cap', cur, e, hb, h2, h3, h4, h5, h6⟩
  · cases e
  · injection e with e1 e2 e3
    injection e1 with e1
    injection e1 with e1
    subst e1; subst e3
    have s1 := heap_setCell_same w g (j * 2) cur _ (.string x) h2
    have s2 := heap_setCell_same _ g (j * 2 + 1) _ _ (.string y) s1
    have ho : ∀ b, b ≠ g → ((w.setCell ⟨g, j * 2, none⟩ (.string x)).setCell ⟨g, j * 2 + 1, none⟩ (.string y)).heap[b]? = w.heap[b]? := fun b hb => by
      rw [heap_setCell_other _ _ _ _ hb, heap_setCell_other _ _ _ _ hb]
    obtain ⟨cw, hw1, _, _⟩ := h.ls.b
    have hS : ∀ g', S.ownBlock = some g' → g' ≠ g := fun g' hg' e => by
      obtain ⟨zs, hz⟩ := h.ls.row
      obtain ⟨cz, hc⟩ := row_ty hz hg'
      rw [e, h2] at hc
      cases hc
    refine ⟨h.ls.block (ho W fun e => by rw [e, h2] at hw1; cases hw1) (fun g' hg' => ho g' (hS g' hg')) (fun g' hg' => ho g' (h.new g' hg')), ⟨_, ⟨?_, .inr ⟨g, cap, _, rfl, hb, s2, h3, h4, by simp [h5], rfl⟩⟩, fun i hi => ?_⟩, fun g' hg' => h.new g' (by unfold HeldB at hg'; rw [heldOf_block fun q hq => ho q (hS q hq)] at hg'; exact hg'), (ho k (by have := h.gk; omega)).trans h.mrk, h.gk, (h.but.setCell (.inr (.inr rfl)) _ _).setCell (.inr (.inr rfl)) _ _⟩
    · rw [List.length_take]; simp; omega
    · by_cases e : i = j
      · subst e
        have a1 : i * 2 < cur.size := by omega
        have a2 : i * 2 + 1 < cur.size := by omega
        have b1 : i * 2 < m * 2 := by omega
        have b2 : i * 2 + 1 < m * 2 := by omega
        constructor
        · rw [List.getElem?_take_of_lt b1, Array.getElem?_toList, Array.getElem?_setIfInBounds_ne (by omega), Array.getElem?_setIfInBounds_self_of_lt a1]
        · rw [List.getElem?_take_of_lt b2, Array.getElem?_toList, Array.getElem?_setIfInBounds_self_of_lt (by simpa using a2)]
      · obtain ⟨q1, q2⟩ := hmk i (by omega)
        rw [← h6] at q1 q2
        have b1 : i * 2 < m * 2 := by omega
        have b2 : i * 2 + 1 < m * 2 := by omega
        rw [List.getElem?_take_of_lt b1, Array.getElem?_toList] at q1
        rw [List.getElem?_take_of_lt b2, Array.getElem?_toList] at q2
        constructor
        · rw [List.getElem?_take_of_lt b1, Array.getElem?_toList, Array.getElem?_setIfInBounds_ne (by omega), Array.getElem?_setIfInBounds_ne (by omega)]; exact q1
        · rw [List.getElem?_take_of_lt b2, Array.getElem?_toList, Array.getElem?_setIfInBounds_ne (by omega), Array.getElem?_setIfInBounds_ne (by omega)]; exact q2
end
theorem Src.two (w : World) (a b c d : ByteArray) (ty : TypeId) : Src (w.alloc (.cells #[.string a, .string b, .string c, .string d] ty)) (some ⟨w.heap.size, 0, none⟩) 2 [.string a, .string b, .string c, .string d] := by
  refine ⟨rfl, fun ad e j u hj => ?_, fun h => (by cases h), fun u hu => by simp at hu; rcases hu with rfl | rfl | rfl | rfl <;> exact ⟨_, rfl⟩⟩
  cases e
  rw [Addr.add_lit, Nat.zero_add]
  match j, hj with
  | 0, hj => simp at hj; subst hj; go_simp
  | 1, hj => simp at hj; subst hj; go_simp
  | 2, hj => simp at hj; subst hj; go_simp
  | 3, hj => simp at hj; subst hj; go_simp
theorem listInfo : ∃ i, Tryz.prog.info? 47 = some i ∧ i.zero = some (.slice none 0 0) ∧ i.size = 1 ∧ i.bytes = 24 := by
  have h : (Tryz.prog.info? 47).map (fun i => (i.zero, i.size, i.bytes)) = some (some (.slice none 0 0), 1, 24) := by kernel_rfl
  obtain ⟨i, h1, h2⟩ := Option.map_eq_some_iff.1 h
  injection h2 with h2 h3
  injection h3 with h3 h4
  exact ⟨i, h1, h2, h3, h4⟩
theorem cell1 (w : World) (a : Value) (ty : TypeId) : ∀ (j : Nat) (u : Value), [a][j]? = some u → (w.alloc (.cells #[a] ty)).cell? ((⟨w.heap.size, 0, none⟩ : Addr).add j) = some u := fun j u hj => by
  rw [Addr.add_lit, Nat.zero_add]
  match j, hj with
  | 0, hj => simp at hj; subst hj; go_simp
theorem shape_of {w : World} {base n size : Nat} {ty : TypeId} {v : Value} {xs : List Value} (h : w.ownsRow base ty size v n xs) : ∃ sa cp, v = .slice sa n cp := by
  rcases h.2 with ⟨rfl, hz⟩ | ⟨g, cap, cur, rfl, _⟩
  · exact ⟨none, 0, by rw [hz]⟩
  · exact ⟨_, _, rfl⟩
/-- the list of lists has grown. -/
theorem LsAt.grow {w w3 : World} {W n : Nat} {S v3 l l' : Value} {o : Obj} {xs : List Value} (h : LsAt n0 w W CS S n) (hg : (w.alloc o).grownBy w3 S.ownBlock) (hr : w3.ownsRow n0 47 1 v3 (n + 1) (xs ++ [l'])) (hx : w.ownsRow n0 47 1 S n xs) (hla : ListAt w n l') :
    w3.cell? ⟨W, 2, none⟩ = some S ∧ w3.frozen? ⟨W, 2, none⟩ = false ∧ LsAt n0 (w3.setCell ⟨W, 2, none⟩ v3) W CS v3 (n + 1) ∧ But (MineB W S l) w (w3.setCell ⟨W, 2, none⟩ v3) := by
  obtain ⟨cur, h1, h2, h2b⟩ := h.b
  obtain ⟨zs, h3⟩ := h.row
  have hlt := h.cell.2.2
  have hne : some W ≠ S.ownBlock := fun e => by
    obtain ⟨c, hc⟩ := row_ty h3 e.symm
    rw [h1] at hc; cases hc
  have hb3 : w3.heap[W]? = some (.cells cur 36 (0, 0)) := (hg.block W (by simp; omega) hne).trans ((heap_alloc_old w o hlt).trans h1)
  have hrow : (w3.setCell ⟨W, 2, none⟩ v3).ownsRow n0 47 1 v3 (n + 1) (xs ++ [l']) := ownsRow_block hr fun g hgg => heap_setCell_other _ _ _ _ fun e => by
    obtain ⟨c, hc⟩ := row_ty hr hgg
    rw [show g = W from e, hb3] at hc; cases hc
  have stay : ∀ (b : Nat) (cur : Array Value), w.heap[b]? = some (Obj.cells cur 74 (0, 0)) → (w3.setCell ⟨W, 2, none⟩ v3).heap[b]? = w.heap[b]? := fun b cur hbb => by
    have hl := (Array.getElem?_eq_some_iff.1 hbb).1
    rw [heap_setCell_other _ _ _ _ fun e => by rw [show b = W from e, h1] at hbb; cases hbb]
    refine (hg.block b (by simp; omega) fun e => ?_).trans (heap_alloc_old w o hl)
    obtain ⟨c, hc⟩ := row_ty h3 e.symm
    rw [hbb] at hc; cases hc
  have lstay : ∀ k q, ListAt w k q → ListAt (w3.setCell ⟨W, 2, none⟩ v3) k q := fun k q ⟨m, ys, a1, a2⟩ => ⟨m, ys, ownsRow_block a1 fun g hgg => by
    obtain ⟨c, hc⟩ := row_ty a1 hgg
    exact stay g c hc, a2⟩
  refine ⟨by simp [World.cell?, hb3, h2], by simp [World.frozen?, hb3], ⟨⟨_, heap_setCell_same w3 W 2 cur _ _ hb3, by rw [Array.getElem?_setIfInBounds_self_of_lt ((Array.getElem?_eq_some_iff.1 h2).1)], by rw [Array.getElem?_setIfInBounds_ne (by omega), h2b.1], by rw [Array.getElem?_setIfInBounds_ne (by omega), h2b.2]⟩, ⟨_, hrow⟩, fun k q hk => ?_⟩, But.setCell (B := MineB W S l) ⟨by have := hg.size; simp at this; omega, fun b hb hn => ?_, (by rw [hg.os]; rfl), (by rw [hg.output]; rfl)⟩ (.inl rfl) _ _⟩
  · rw [heldOf_row hrow] at hk
    have hxl : xs.length = n := by have := hx.1; omega
    rcases Nat.lt_or_ge k n with hkn | hkn
    · rw [List.getElem?_append_left (by omega)] at hk
      exact lstay k q (h.kept k q (by rw [heldOf_row hx]; exact hk))
    · rw [List.getElem?_append_right (by omega)] at hk
      have hk0 : k - xs.length = 0 := by
        have := (List.getElem?_eq_some_iff.1 hk).1
        simp at this; omega
      rw [hk0] at hk
      cases hk
      obtain rfl : k = n := by omega
      exact lstay k _ hla
  · exact (hg.block b (by simp; omega) fun e => hn (.inr (.inl e.symm))).trans (heap_alloc_old w o hb)
theorem LsAt.app {w w2 : World} {W n : Nat} {S l : Value} {o : Obj} {m base : Nat} {xs : List Value} (h : LsAt n0 w W CS S n) (hl : (w.alloc o).ownsRow base 74 2 l m xs) (hg : (w.alloc o).grownBy w2 l.ownBlock) (hnew : ∀ g, HeldB w S g → l.ownBlock ≠ some g) : LsAt n0 w2 W CS S n ∧ But (MineB W S l) w w2 := by
  obtain ⟨cur, h1, h2, h2b⟩ := h.b
  obtain ⟨zs, h3⟩ := h.row
  have key : ∀ (b : Nat) (c : Array Value) (ty : TypeId), w.heap[b]? = some (Obj.cells c ty (0, 0)) → ty ≠ 74 → w2.heap[b]? = w.heap[b]? := fun b c ty hb hne => by
    have hlt := (Array.getElem?_eq_some_iff.1 hb).1
    refine (hg.block b (by simp; omega) fun e => ?_).trans (heap_alloc_old w o hlt)
    obtain ⟨c', hc⟩ := row_ty hl e.symm
    rw [heap_alloc_old w o hlt, hb] at hc
    have e2 : Obj.cells c ty (0, 0) = Obj.cells c' 74 (0, 0) := Option.some.inj hc
    injection e2 with _ e3
    exact hne e3
  refine ⟨h.block (key W _ _ h1 (by decide)) (fun g hgg => ?_) (fun g hgg => ?_), ⟨by have := hg.size; simp at this; omega, fun b hb hn => (hg.block b (by simp; omega) fun e => hn (.inr (.inr e.symm))).trans (heap_alloc_old w o hb), (by rw [hg.os]; rfl), (by rw [hg.output]; rfl)⟩⟩
  · obtain ⟨c, hc⟩ := row_ty h3 hgg
    exact key g _ _ hc (by decide)
  · obtain ⟨c, hc⟩ := h.held_ty hgg
    have hl := (Array.getElem?_eq_some_iff.1 hc).1
    exact (hg.block g (by simp; omega) fun e => hnew g hgg e.symm).trans (heap_alloc_old w o hl)
/-- a row that is marked all through, with two more. -/
theorem ListAt.two {w w2 : World} {base m k : Nat} {v : Value} {zs : List Value} {a b : ByteArray} (h : w2.ownsRow base 74 2 v (m + 2) (zs ++ [.string a, .string b, .string a, .string b])) (hz : zs.length = m * 2) (hm : ∀ i, i < m → zs[i * 2]? = some (.string a) ∧ zs[i * 2 + 1]? = some (.string b)) (ha : a = mnK ∧ b = mnV k) : ListAt w2 k v := by
  obtain ⟨rfl, rfl⟩ := ha
  refine ⟨m + 2, _, ⟨h.1, h.2.imp id fun ⟨g, cap, cur, e, _, r⟩ => ⟨g, cap, cur, e, Nat.zero_le _, r⟩⟩, fun i hi => ?_⟩
  by_cases hi2 : i < m
  · rw [List.getElem?_append_left (by omega), List.getElem?_append_left (by omega)]
    exact hm i hi2
  · rw [List.getElem?_append_right (by omega), List.getElem?_append_right (by omega), hz]
    have : i = m ∨ i = m + 1 := by omega
    rcases this with rfl | rfl
    · rw [show i * 2 - i * 2 = 0 by omega, show i * 2 + 1 - i * 2 = 1 by omega]; exact ⟨rfl, rfl⟩
    · rw [show (m + 1) * 2 - m * 2 = 2 by omega, show (m + 1) * 2 + 1 - m * 2 = 3 by omega]; exact ⟨rfl, rfl⟩
set_option maxRecDepth 100000 in
set_option maxHeartbeats 1000000 in
theorem mine_some {W n m base g cap : Nat} {S : Value} {xs : List Value} (h : LsAt n0 w W CS S n) (hn : n ≤ 4398046511103) (hl : w.ownsRow base 74 2 (.slice (some ⟨g, 0, none⟩) m cap) m xs) (hm : m ≤ 1073741820) (hlo : n0 ≤ w.heap.size) (hnew : ∀ g', HeldB w S g' → g' ≠ g) :
    Calls Tryz.prog 30 #[.pointer (some ⟨W, 0, none⟩), .slice (some ⟨g, 0, none⟩) m cap] w fun e w' => (e = .returned (.tuple #[])) ∧ (∃ S', LsAt n0 w' W CS S' (n + 1)) ∧ But (MineB W S (.slice (some ⟨g, 0, none⟩) m cap)) w w' := by
  obtain ⟨c1, c2, c3⟩ := h.cell
  obtain ⟨S1, S2, hS⟩ : ∃ sa cp, S = .slice sa n cp := by
    obtain ⟨xs, h⟩ := h.row
    rcases h.2 with ⟨rfl, hz⟩ | ⟨g, cap, cur, rfl, _⟩
    · exact ⟨none, 0, by rw [hz]⟩
    · exact ⟨_, _, rfl⟩
  subst hS
  have HL := Lib.hid h
  have HR := Lib.hid hl
  have HLO := Lib.hid hlo
  have HNW := Lib.hid hnew
  clear h hl hlo hnew
  go_enter Tryz.func30, Tryz.ntmps30
  go_wp2_with (go_at_call 38; refine (mark_c n (by omega)).mono ?_; rintro e w1 ⟨⟨ma, mb, hmm, rfl⟩, hb1⟩; have HB1 := Lib.hid hb1; have HMM := Lib.hid hmm; clear hb1 hmm)
  go_loopw [15] (fun x wr => ∃ j : Nat, j ≤ m ∧ x = .int .i64 j ∧ Hid (MnW n0 CS w W n m base g cap w1.heap.size (.slice S1 n S2) ma mb j wr)) (fun x _ => m - (intOf x).toNat)
  case atStart =>
    have hb := HB1.out.alloc HB1.out.size (.cells #[.string ma, .string mb] 74)
    have hg : g < w.heap.size := (HR.out.lt g rfl).2
    have hSb : ∀ g', Value.ownBlock (.slice S1 n S2) = some g' → _ := fun g' hg' => hb.block g' (let ⟨_, hz⟩ := HL.out.row; (hz.lt g' hg').2)
    refine ⟨0, Nat.zero_le _, rfl, Lib.hid ⟨HL.out.block (hb.block W c3) hSb (fun g' hg' => hb.block g' (let ⟨_, hz⟩ := HL.out.held_ty hg'; (Array.getElem?_eq_some_iff.1 hz).1)), ⟨xs, ownsRow_block HR.out fun g' hg' => by cases hg'; exact hb.block g hg, fun i hi => absurd hi (Nat.not_lt_zero i)⟩, fun g' hg' => HNW.out g' (by unfold HeldB at hg'; rw [heldOf_block hSb] at hg'; exact hg'), heap_alloc_new _ _, Nat.lt_of_lt_of_le hg HB1.out.size, .of_below hb⟩⟩
  case round =>
    obtain ⟨j, hj, rfl, HM⟩ := hrel
    by_cases hjl : j < m
    · obtain ⟨⟨v0, d0⟩, ⟨v1, d1⟩, f0, f1, k0, k1⟩ := MnW.cells j HM.out hjl
      have HN := Lib.hid (MnW.stored j HM.out hjl)
      go_wp2
      go_roundw
      case rel => exact ⟨j + 1, by omega, rfl, HN⟩
      case measure => simp [intOf]; omega
    · obtain rfl : j = m := by omega
      have k0 : wr.cell? ⟨w1.heap.size, 0, none⟩ = some (.string ma) := by simp [World.cell?, HM.out.mrk]
      have k1 : wr.cell? ⟨w1.heap.size, 1, none⟩ = some (.string mb) := by simp [World.cell?, HM.out.mrk]
      obtain ⟨zs, hz, hzm⟩ := HM.out.row
      have HZM := Lib.hid hzm
      clear hzm
      obtain ⟨ys, hy⟩ := HM.out.ls.row
      have HSZ := Lib.hid HM.out.but.size
      have HZ := Lib.hid hz
      have HY := Lib.hid hy
      clear hz hy
      obtain ⟨li, l1, l2, l3, l4⟩ := listInfo
      have HI := Lib.hid (And.intro l1 (And.intro l2 (And.intro l3 l4)))
      clear l1 l2 l3 l4
      obtain ⟨pi, l1, l2, l3, l4⟩ := pairInfoL
      have HP := Lib.hid (And.intro l1 (And.intro l2 (And.intro l3 l4)))
      clear l1 l2 l3 l4
      go_wp2_with (first
        | (at_builtin; (refine wpList_append_own _ rfl (.tmp 23) (.tmp 26) 47 rfl base 74 pi _ 2 32 Tryz.underlying47 HP.out.1 HP.out.2.1 HP.out.2.2.1 HP.out.2.2.2 rfl (by decide) (.slice (some ⟨g, 0, none⟩) j cap) j zs rfl (HZ.out.alloc _) ⟨wr.heap.size, 0, none⟩ 2 2 [.string ma, .string mb, .string ma, .string mb] rfl rfl ((Src.two wr ma mb ma mb _).cell _ rfl) (by intro u hu; simp at hu; rcases hu with rfl | rfl | rfl | rfl <;> rfl) (by unfold maxLen; omega) (by omega) (by have := (HZ.out.lt g rfl).1; have := (HZ.out.lt g rfl).2; simp; omega) ?_; intro v2 w2 hrow2 hg2 _; obtain ⟨sa2, cp2, hv2⟩ := shape_of hrow2; have H2 := Lib.hid (HM.out.ls.app (HZ.out.alloc _) hg2 (fun g' hg' e => HM.out.new g' hg' (by cases e; rfl))); have HA2 := Lib.hid (ListAt.two (w := w2) hrow2 HZ.out.1 HZM.out HMM.out); obtain ⟨d2, e2, _⟩ := H2.out.1.cell; rw [hv2] at HA2; rw [hv2]; clear hrow2 hg2 hv2))
        | (at_builtin; (obtain ⟨qs, hq⟩ := H2.out.1.row; refine wpList_append_own _ rfl (.tmp 31) (.tmp 33) 34 rfl n0 47 li _ 1 24 Tryz.underlying34 HI.out.1 HI.out.2.1 HI.out.2.2.1 HI.out.2.2.2 rfl (by decide) (.slice S1 n S2) n qs rfl (hq.alloc _) ⟨w2.heap.size, 0, none⟩ 1 1 [.slice sa2 (j + 2) cp2] rfl rfl (cell1 w2 _ _) (by intro u hu; simp at hu; subst hu; rfl) (by unfold maxLen; omega) (by omega) (by have a0 := HLO.out; have a1 := HSZ.out; have a2 := H2.out.2.size; simp; omega) ?_; intro v3 w3 hrow3 hg3 _; obtain ⟨sa3, cp3, hv3⟩ := shape_of hrow3; have H3 := Lib.hid (H2.out.1.grow (l := .slice (some ⟨g, 0, none⟩) j cap) hg3 hrow3 hq HA2.out); rw [hv3] at H3; obtain ⟨d3, e3, _⟩ := H3.out; rw [hv3]; clear hrow3 hg3 hv3 hq)))
      go_end0
      exact ⟨rfl, ⟨_, H3.out.2.2.1⟩, (HM.out.but.trans H2.out.2).trans H3.out.2.2.2⟩
set_option maxRecDepth 100000 in
set_option maxHeartbeats 1000000 in
theorem mine_nil {W n : Nat} {S : Value} (h : LsAt n0 w W CS S n) (hn : n ≤ 4398046511103) (hlo : n0 ≤ w.heap.size) :
    Calls Tryz.prog 30 #[.pointer (some ⟨W, 0, none⟩), .slice none 0 0] w fun e w' => (e = .returned (.tuple #[])) ∧ (∃ S', LsAt n0 w' W CS S' (n + 1)) ∧ But (MineB W S (.slice none 0 0)) w w' := by
  obtain ⟨c1, c2, c3⟩ := h.cell
  obtain ⟨S1, S2, hS⟩ : ∃ sa cp, S = .slice sa n cp := by
    obtain ⟨xs, h⟩ := h.row
    exact shape_of h
  subst hS
  have HL := Lib.hid h
  have HLO := Lib.hid hlo
  clear h hlo
  obtain ⟨li, l1, l2, l3, l4⟩ := listInfo
  have HI := Lib.hid (And.intro l1 (And.intro l2 (And.intro l3 l4)))
  clear l1 l2 l3 l4
  go_enter Tryz.func30, Tryz.ntmps30
  go_wp2_with (go_at_call 38; refine (mark_c n (by omega)).mono ?_; rintro e w1 ⟨⟨ma, mb, hmm, rfl⟩, hb1⟩; have HB1 := Lib.hid hb1; have HMM := Lib.hid hmm; clear hb1 hmm)
  refine wp_loop_rounds 1 ?_
  rw [rounds_succ]
  have hb := HB1.out.alloc HB1.out.size (.cells #[.string ma, .string mb] 74)
  have HL1 : Hid (LsAt n0 (w1.alloc (.cells #[.string ma, .string mb] 74)) W CS (.slice S1 n S2) n) := Lib.hid (HL.out.block (hb.block W c3) (fun g' hg' => hb.block g' (let ⟨_, hz⟩ := HL.out.row; (hz.lt g' hg').2)) (fun g' hg' => hb.block g' (let ⟨_, hz⟩ := HL.out.held_ty hg'; (Array.getElem?_eq_some_iff.1 hz).1)))
  have HSZ := Lib.hid hb.size
  have HB2 := Lib.hid (But.of_below (B := MineB W (.slice S1 n S2) (.slice none 0 0)) hb)
  clear hb
  have k0 : (w1.alloc (.cells #[.string ma, .string mb] 74)).cell? ⟨w1.heap.size, 0, none⟩ = some (.string ma) := by go_simp
  have k1 : (w1.alloc (.cells #[.string ma, .string mb] 74)).cell? ⟨w1.heap.size, 1, none⟩ = some (.string mb) := by go_simp
  generalize w1.alloc (.cells #[.string ma, .string mb] 74) = wr at *
  go_wp2_with (first
    | (at_builtin; refine wpList_app (v := .slice none 0 0) (base := 0) rfl (.tmp 23) (.tmp 26) rfl rfl rfl (World.ownsRow_nil _ _ _ _) (AllS.nil _) (Src.two _ ma mb ma mb _) (by omega) (Nat.zero_le _) ?_; intro v2 w2 hrow2 hall2 hg2; obtain ⟨sa2, cp2, hv2⟩ := shape_of hrow2; have H2 := Lib.hid (HL1.out.app (World.ownsRow_nil _ 0 _ _) hg2 (fun g' _ e => by cases e)); have HA2 := Lib.hid (ListAt.two (w := w2) (m := 0) (zs := []) hrow2 rfl (fun i hi => absurd hi (Nat.not_lt_zero i)) HMM.out); obtain ⟨d2, e2, _⟩ := H2.out.1.cell; rw [Nat.zero_add] at hv2; rw [hv2] at HA2; rw [hv2]; clear hrow2 hall2 hg2 hv2)
    | (at_builtin; (obtain ⟨qs, hq⟩ := H2.out.1.row; refine wpList_append_own _ rfl (.tmp 31) (.tmp 33) 34 rfl n0 47 li _ 1 24 Tryz.underlying34 HI.out.1 HI.out.2.1 HI.out.2.2.1 HI.out.2.2.2 rfl (by decide) (.slice S1 n S2) n qs rfl (hq.alloc _) ⟨w2.heap.size, 0, none⟩ 1 1 [.slice sa2 2 cp2] rfl rfl (cell1 w2 _ _) (by intro u hu; simp at hu; subst hu; rfl) (by unfold maxLen; omega) (by omega) (by have a0 := HLO.out; have a1 := HSZ.out; have a2 := H2.out.2.size; simp; omega) ?_; intro v3 w3 hrow3 hg3 _; obtain ⟨sa3, cp3, hv3⟩ := shape_of hrow3; have H3 := Lib.hid (H2.out.1.grow (l := .slice none 0 0) hg3 hrow3 hq HA2.out); rw [hv3] at H3; obtain ⟨d3, e3, _⟩ := H3.out; rw [hv3]; clear hrow3 hg3 hv3 hq)))
  go_end0
  exact ⟨rfl, ⟨_, H3.out.2.2.1⟩, (HB2.out.trans H2.out.2).trans H3.out.2.2.2⟩
end
end Go.Proofs.YtkpekiajdlolnabGreat

/-
  CONTRACTS (lone), sixth text: the library's slices.Sorted(maps.Keys(m)), laid at this program (the three layings: the kit's own print in plain words).
-/
namespace Go.Proofs
open Go.RowKit Go.Maps Go.Sort Go.Shelf

def Tryz.keysOf_ren : Go.Shelf.Ren := ⟨fun | 7 => 91 | 10 => 124 | n => n, fun | 23 => 140 | 26 => 9 | 3 => 146 | 28 => 173 | 0 => 0 | 27 => 172 | 33 => 28 | 4 => 4 | n => n, fun | n => n⟩
theorem Tryz.keysOf : Go.Proofs.SlLaysZ.n7 Tryz.prog Tryz.keysOf_ren := {
  mixed := by kernel_rfl
  f7 := ⟨Tryz.f91.name, by decide, Tryz.func91.trans (congrArg some (by kernel_rfl))⟩
  f10 := ⟨Tryz.f124.name, by decide, Tryz.func124.trans (congrArg some (by kernel_rfl))⟩
  t0 := Tryz.underlying0
  a0 := Tryz.isAgg0
  z0 := Tryz.sizeOf0
  v0 := Tryz.zeroValue0
  t4 := Tryz.underlying4
  a4 := Tryz.isAgg4
  z4 := Tryz.sizeOf4
  v4 := Tryz.zeroValue4
  t23 := Tryz.underlying140
  a23 := Tryz.isAgg140
  z23 := Tryz.sizeOf140
  v23 := Tryz.zeroValue140
  t26 := Tryz.underlying9
  a26 := Tryz.isAgg9
  z26 := Tryz.sizeOf9
  v26 := Tryz.zeroValue9
  t27 := Tryz.underlying172
  a27 := Tryz.isAgg172
  z27 := Tryz.sizeOf172
  v27 := Tryz.zeroValue172
  t28 := Tryz.underlying173
  a28 := Tryz.isAgg173
  z28 := Tryz.sizeOf173
  v28 := Tryz.zeroValue173
  t33 := Tryz.underlying28
  a33 := Tryz.isAgg28
  z33 := Tryz.sizeOf28
  v33 := Tryz.zeroValue28 }
def Tryz.sortedOf_ren : Go.Shelf.Ren := ⟨fun | 6 => 90 | 8 => 122 | 9 => 123 | 11 => 135 | 13 => 137 | 12 => 136 | 23 => 151 | 24 => 152 | 14 => 142 | 15 => 143 | 16 => 144 | 17 => 145 | 18 => 146 | 19 => 147 | 20 => 148 | 21 => 149 | 22 => 150 | 25 => 153 | 26 => 154 | 27 => 155 | 28 => 156 | 29 => 157 | 30 => 158 | 31 => 159 | n => n, fun | 26 => 9 | 28 => 173 | 24 => 33 | 0 => 0 | 3 => 3 | 37 => 165 | 48 => 120 | 50 => 117 | 4 => 4 | 40 => 225 | 39 => 224 | 45 => 88 | 5 => 5 | 9 => 9 | 51 => 233 | 55 => 236 | 57 => 238 | 58 => 239 | 33 => 28 | n => n, fun | n => n⟩
theorem Tryz.sortedOf : Go.Proofs.SlLaysZ.n6 Tryz.prog Tryz.sortedOf_ren := {
  mixed := by kernel_rfl
  f6 := ⟨Tryz.f90.name, by decide, Tryz.func90.trans (congrArg some (by kernel_rfl))⟩
  f8 := ⟨Tryz.f122.name, by decide, Tryz.func122.trans (congrArg some (by kernel_rfl))⟩
  f11 := ⟨Tryz.f135.name, by decide, Tryz.func135.trans (congrArg some (by kernel_rfl))⟩
  t0 := Tryz.underlying0
  a0 := Tryz.isAgg0
  z0 := Tryz.sizeOf0
  v0 := Tryz.zeroValue0
  t24 := Tryz.underlying33
  a24 := Tryz.isAgg33
  z24 := Tryz.sizeOf33
  v24 := Tryz.zeroValue33
  t26 := Tryz.underlying9
  a26 := Tryz.isAgg9
  z26 := Tryz.sizeOf9
  v26 := Tryz.zeroValue9
  t28 := Tryz.underlying173
  a28 := Tryz.isAgg173
  z28 := Tryz.sizeOf173
  v28 := Tryz.zeroValue173
  i26 := by kernel_rfl }
def Tryz.sortOf_ren : Go.Shelf.Ren := ⟨fun | 6 => 123 | 8 => 137 | 9 => 136 | 19 => 151 | 20 => 152 | 21 => 142 | 22 => 143 | 23 => 144 | 24 => 145 | 25 => 146 | 26 => 147 | 27 => 148 | 28 => 149 | 29 => 150 | 36 => 153 | 31 => 154 | 32 => 155 | 37 => 156 | 38 => 157 | 39 => 158 | 41 => 159 | n => n, fun | 27 => 33 | 29 => 9 | 3 => 3 | 32 => 165 | 26 => 33 | 0 => 0 | 44 => 120 | 46 => 117 | 4 => 4 | 36 => 225 | 35 => 224 | 41 => 88 | 5 => 5 | 9 => 9 | 53 => 233 | 57 => 236 | 63 => 238 | 64 => 239 | n => n, fun | n => n⟩
theorem Tryz.sortOf : Go.Proofs.SlLaysM.n6 Tryz.prog Tryz.sortOf_ren := {
  mixed := by kernel_rfl
  f6 := ⟨Tryz.f123.name, by decide, Tryz.func123.trans (congrArg some (by kernel_rfl))⟩
  f8 := Tryz.func137.trans (congrArg some (by kernel_rfl))
  f9 := ⟨Tryz.f136.name, by decide, Tryz.func136.trans (congrArg some (by kernel_rfl))⟩
  f19 := Tryz.func151.trans (congrArg some (by kernel_rfl))
  f20 := Tryz.func152.trans (congrArg some (by kernel_rfl))
  f21 := ⟨Tryz.f142.name, by decide, Tryz.func142.trans (congrArg some (by kernel_rfl))⟩
  f22 := ⟨Tryz.f143.name, by decide, Tryz.func143.trans (congrArg some (by kernel_rfl))⟩
  f23 := ⟨Tryz.f144.name, by decide, Tryz.func144.trans (congrArg some (by kernel_rfl))⟩
  f24 := ⟨Tryz.f145.name, by decide, Tryz.func145.trans (congrArg some (by kernel_rfl))⟩
  f25 := ⟨Tryz.f146.name, by decide, Tryz.func146.trans (congrArg some (by kernel_rfl))⟩
  f26 := ⟨Tryz.f147.name, by decide, Tryz.func147.trans (congrArg some (by kernel_rfl))⟩
  f27 := ⟨Tryz.f148.name, by decide, Tryz.func148.trans (congrArg some (by kernel_rfl))⟩
  f28 := ⟨Tryz.f149.name, by decide, Tryz.func149.trans (congrArg some (by kernel_rfl))⟩
  f29 := ⟨Tryz.f150.name, by decide, Tryz.func150.trans (congrArg some (by kernel_rfl))⟩
  f31 := Tryz.func154.trans (congrArg some (by kernel_rfl))
  f32 := Tryz.func155.trans (congrArg some (by kernel_rfl))
  f36 := ⟨Tryz.f153.name, by decide, Tryz.func153.trans (congrArg some (by kernel_rfl))⟩
  f37 := ⟨Tryz.f156.name, by decide, Tryz.func156.trans (congrArg some (by kernel_rfl))⟩
  f38 := ⟨Tryz.f157.name, by decide, Tryz.func157.trans (congrArg some (by kernel_rfl))⟩
  f39 := ⟨Tryz.f158.name, by decide, Tryz.func158.trans (congrArg some (by kernel_rfl))⟩
  f41 := ⟨Tryz.f159.name, by decide, Tryz.func159.trans (congrArg some (by kernel_rfl))⟩
  t0 := Tryz.underlying0
  a0 := Tryz.isAgg0
  z0 := Tryz.sizeOf0
  v0 := Tryz.zeroValue0
  t3 := Tryz.underlying3
  a3 := Tryz.isAgg3
  z3 := Tryz.sizeOf3
  v3 := Tryz.zeroValue3
  t4 := Tryz.underlying4
  a4 := Tryz.isAgg4
  z4 := Tryz.sizeOf4
  v4 := Tryz.zeroValue4
  t5 := Tryz.underlying5
  a5 := Tryz.isAgg5
  z5 := Tryz.sizeOf5
  v5 := Tryz.zeroValue5
  t9 := Tryz.underlying9
  a9 := Tryz.isAgg9
  z9 := Tryz.sizeOf9
  v9 := Tryz.zeroValue9
  t26 := Tryz.underlying33
  a26 := Tryz.isAgg33
  z26 := Tryz.sizeOf33
  v26 := Tryz.zeroValue33
  t27 := Tryz.underlying33
  a27 := Tryz.isAgg33
  z27 := Tryz.sizeOf33
  v27 := Tryz.zeroValue33
  t29 := Tryz.underlying9
  a29 := Tryz.isAgg9
  z29 := Tryz.sizeOf9
  v29 := Tryz.zeroValue9
  t32 := Tryz.underlying165
  a32 := Tryz.isAgg165
  z32 := Tryz.sizeOf165
  v32 := Tryz.zeroValue165
  t35 := Tryz.underlying224
  a35 := Tryz.isAgg224
  z35 := Tryz.sizeOf224
  v35 := Tryz.zeroValue224
  t36 := Tryz.underlying225
  a36 := Tryz.isAgg225
  z36 := Tryz.sizeOf225
  v36 := Tryz.zeroValue225
  t41 := Tryz.underlying88
  a41 := Tryz.isAgg88
  z41 := Tryz.sizeOf88
  v41 := Tryz.zeroValue88
  t44 := Tryz.underlying120
  a44 := Tryz.isAgg120
  z44 := Tryz.sizeOf120
  v44 := Tryz.zeroValue120
  t46 := Tryz.underlying117
  a46 := Tryz.isAgg117
  z46 := Tryz.sizeOf117
  v46 := Tryz.zeroValue117
  t53 := Tryz.underlying233
  a53 := Tryz.isAgg233
  z53 := Tryz.sizeOf233
  v53 := Tryz.zeroValue233
  t57 := Tryz.underlying236
  a57 := Tryz.isAgg236
  z57 := Tryz.sizeOf236
  v57 := Tryz.zeroValue236
  t63 := Tryz.underlying238
  a63 := Tryz.isAgg238
  z63 := Tryz.sizeOf238
  v63 := Tryz.zeroValue238
  t64 := Tryz.underlying239
  a64 := Tryz.isAgg239
  z64 := Tryz.sizeOf239
  v64 := Tryz.zeroValue239 }

theorem Tryz.sorts_of (m : Nat) : AnyZ.SortsIn Tryz.prog Tryz.sortedOf_ren Fence.wide m :=
  ⟨fun blk off cap ss W hH hblk hsz => callsIn_wide.2 (AnyM.slices_Sort_string Tryz.sortOf blk off cap ss W hH hblk hsz),
   fun p cap W => callsIn_wide.2 (AnyM.slices_Sort_string_none Tryz.sortOf p cap W)⟩
theorem Tryz.maps_keys (mb : Option Nat) (W : World) : Calls Tryz.prog 91 #[.map mb] W fun e w' => e = .returned (.func (.func 124) #[] #[.pointer (some ⟨W.heap.size, 0, none⟩)]) ∧ w' = W.alloc (.cells #[.map mb] 140) :=
  callsIn_wide.1 (AnyZ.keys_in Tryz.keysOf Fence.wide 5 trivial rfl mb W)
set_option maxHeartbeats 1000000 in
theorem Tryz.slices_sorted {H : Type} (b nn : Nat) (D0 : DataW H) (R : Value → Option (DataW H × List MemPlace)) (w : World) (hown : w.ownsMap Tryz.prog 9 R b nn D0) (hmax : Maps.size D0 ≤ maxLen) (hbytes : Maps.size D0 * 16 ≤ 140737488355328) :
    Calls Tryz.prog 90 #[.func (.func 124) #[] #[.pointer (some ⟨w.heap.size, 0, none⟩)]] (w.alloc (.cells #[.map (some b)] 140)) fun e w' => ∃ (v : Value) (ss : List (List UInt8)), e = .returned v ∧ ss.Perm (strKeys D0) ∧
      w'.ownsRow (w.alloc (.cells #[.map (some b)] 140)).heap.size 9 1 v ss.length ((ss.mergeSort (fun x y => decide (x ≤ y))).map encStr) ∧ (v = .slice none 0 0 ↔ ss = []) ∧ Below (w.alloc (.cells #[.map (some b)] 140)).heap.size (w.alloc (.cells #[.map (some b)] 140)) w' := by
  refine (callsIn_wide (n := 5)).1 ?_
  have hbl := hown.lt
  have hseq : SeqGives Fence.wide 2 Tryz.prog 124 #[.pointer (some ⟨w.heap.size, 0, none⟩)] encStr (fun ss => ss.Perm (strKeys D0)) (Maps.size D0) (w.alloc (.cells #[.map (some b)] 140)) :=
    AnyZ.keys_gives (ρ := Tryz.keysOf_ren) { Tryz.keysOf with } Fence.wide _ trivial rfl (by omega) w.heap.size b nn D0 _ (by simp) (by simp) (by
      obtain ⟨es, clock, hb, Ft, hs, hD⟩ := hown
      exact ⟨es, clock, (Below.heap_alloc _ _ b hbl).trans hb, Ft, hs, hD⟩)
  exact AnyZ.sorted_in Tryz.sortedOf Fence.wide 5 trivial trivial trivial trivial rfl (by omega) (Tryz.sorts_of _) (enters_of Tryz.func123 (by kernel_rfl) rfl) 124 #[.pointer (some ⟨w.heap.size, 0, none⟩)] trivial (enters_of Tryz.func124 (by kernel_rfl) rfl) _ _ hmax hbytes _ hseq
end Go.Proofs

/-
  CONTRACTS (lone), seventh text: Pairs.
-/
namespace Go.Proofs.YtkpekiajdlolnabGreat
open Go.RowKit Go.Maps Go.Sort

theorem keys_DM (L : KV) : strKeys (DM L) = L.map (·.1) := by
  show List.map _ (List.map _ L) = _
  rw [List.map_map]
  rfl
theorem bb_lt (a b : Bs) : bytesBefore a b = decide (a < b) := by rw [← less_bb, bytesLess_eq]
theorem sorted_keys {L : KV} (h : Rising L) {ss : List Bs} (hp : ss.Perm (L.map (·.1))) : ss.mergeSort (fun x y => decide (x ≤ y)) = L.map (·.1) := by
  rw [mergeSort_of_perm hp]
  refine List.mergeSort_of_pairwise ?_
  rw [List.pairwise_map]
  refine List.Pairwise.imp ?_ h
  intro a b hab
  rw [bb_lt] at hab
  exact decide_eq_true (List.le_of_lt (of_decide_eq_true hab))
theorem get_run1 {w : World} {mb : Nat} {L : KV} (hm : MapKV w mb L) (s : ByteArray) (hs : s.size ≤ maxLen) : (Instr.lookup 140 (.map (some mb)) (.string s) false).run Tryz.prog w = .ok (.agg #[sv ((kvFind L s.data.toList).getD [])]) w := by
  have hown := hm
  obtain ⟨v, ps, hrun, hv⟩ := hown.lookup (string_keyed Tryz.underlying9) Tryz.underlying140 (zeroVal w) (zd := ev []) (zp := []) rfl (keyStr s hs)
  rw [atKey_DM] at hv
  have : Rv v = some (ev ((kvFind L s.data.toList).getD []), ps) := by
    rw [hv]
    cases kvFind L s.data.toList <;> rfl
  rw [hrun, Rv_inv this]
theorem field_run (pv : ByteArray) (w : World) : (Instr.field 146 (.agg #[.string pv]) 0).run Tryz.prog w = .ok (.string pv) w := by kernel_rfl
theorem kv_at {L : KV} (h : Rising L) {j : Nat} {p : Bs × Bs} (hp : L[j]? = some p) : kvFind L p.1 = some p.2 := by
  have hmem : p ∈ L := List.mem_of_getElem? hp
  clear hp
  unfold kvFind
  induction L with
  | nil => cases hmem
  | cons q L ih =>
    obtain ⟨h1, h2⟩ := List.pairwise_cons.1 h
    rw [List.find?_cons]
    rcases List.mem_cons.1 hmem with rfl | hm
    · simp
    · rw [bb_ne (h1 p hm)]
      exact ih h2 hm

def PairsPost (w : World) (L : KV) (e : Ending) (w' : World) : Prop := ∃ v, e = .returned v ∧ RowKV w' w.heap.size v L ∧ Below w.heap.size w w'
theorem filter_take_succ {L : KV} {j : Nat} {p : Bs × Bs} (f : Bs × Bs → Bool) (hp : L[j]? = some p) : (L.take (j + 1)).filter f = (L.take j).filter f ++ (if f p then [p] else []) := by
  obtain ⟨hj, rfl⟩ := List.getElem?_eq_some_iff.1 hp
  rw [List.take_succ_eq_append_getElem hj, List.filter_append, List.filter_cons, List.filter_nil]
section
variable {w : World} {db mb : Nat} {L : KV}
/-- the loop's standing. -/
structure PrW (W : World) (db mb : Nat) (L : KV) (s t : Bs) (j : Nat) (out : Value) (w : World) : Prop where
  row : RowKV w W.heap.size out ((L.take j).filter (inB s t))
  below : Below W.heap.size W w
theorem PrW.app {W : World} {s t : Bs} {j : Nat} {out : Value} {p : Bs × Bs} (h : PrW W db mb L s t j out w) (hp : L[j]? = some p) (hin : inB s t p = true) {v' : Value} {w1 w2 : World} (hb1 : Below W.heap.size W w1) (hr1 : w1.ownsRow W.heap.size 74 2 out ((L.take j).filter (inB s t)).length (flat ((L.take j).filter (inB s t)))) (hg : w1.grownBy w2 out.ownBlock)
    (hr : w2.ownsRow W.heap.size 74 2 v' (((L.take j).filter (inB s t)).length + 1) (flat ((L.take j).filter (inB s t)) ++ [sv p.1, sv p.2])) (ha : AllS w2 v') : PrW W db mb L s t (j + 1) v' w2 := by
  refine ⟨?_, below_byGrown hb1 hg hr1 (Nat.le_refl _) hb1.size⟩
  rw [filter_take_succ _ hp, hin, if_pos rfl]
  exact row_end hr ha (Nat.le_refl _) (by rw [flat_append]; rfl)
theorem PrW.skip {W : World} {s t : Bs} {j : Nat} {out : Value} {p : Bs × Bs} (h : PrW W db mb L s t j out w) (hp : L[j]? = some p) (hin : inB s t p = false) : PrW W db mb L s t (j + 1) out w := by
  refine ⟨?_, h.below⟩
  rw [filter_take_succ _ hp, hin]
  simpa using h.row
/-- the sorted keys. -/
theorem sorted_at (hm : MapKV w mb L) (hri : Rising L) (hL : L.length ≤ 12) :
    Calls Tryz.prog 90 #[.func (.func 124) #[] #[.pointer (some ⟨w.heap.size, 0, none⟩)]] (w.alloc (.cells #[.map (some mb)] 140)) fun e w' =>
      ((L = [] ∧ e = .returned (.slice none 0 0)) ∨ ∃ kb cap, L ≠ [] ∧ e = .returned (.slice (some ⟨kb, 0, none⟩) L.length cap) ∧ ∀ j (p : Bs × Bs), L[j]? = some p → w'.cell? ⟨kb, j, none⟩ = some (sv p.1)) ∧ Below w.heap.size w w' := by
  refine (Tryz.slices_sorted mb L.length (DM L) Rv w hm (by rw [size_DM]; unfold maxLen; omega) (by rw [size_DM]; omega)).mono ?_
  rintro e w' ⟨kv, ss, rfl, hp, hr, hn, hb⟩
  have hb' : Below w.heap.size w w' := ((Below.refl _ w).alloc (Nat.le_refl _) _).trans (hb.mono (by simp))
  rw [keys_DM] at hp
  have hlen : ss.length = L.length := by rw [hp.length_eq, List.length_map]
  rw [sorted_keys hri hp] at hr
  refine ⟨?_, hb'⟩
  by_cases he : L = []
  · have : ss = [] := List.eq_nil_of_length_eq_zero (by rw [hlen, he]; rfl)
    exact .inl ⟨he, by rw [hn.2 this]⟩
  · rcases hr.2 with ⟨_, hz⟩ | ⟨kb, cap, cur, hkv, _⟩
    · exact absurd (List.eq_nil_of_length_eq_zero (by omega)) he
    · refine .inr ⟨kb, cap, he, by rw [hkv, hlen], fun j p hj => ?_⟩
      have h1 : ((L.map (·.1)).map encStr)[j]? = some (sv p.1) := by rw [List.getElem?_map, List.getElem?_map, hj]; rfl
      have h2 := hr.cells (g := kb) (by rw [hkv]; rfl) _ _ h1
      rwa [Addr.add_lit, Nat.zero_add] at h2
set_option maxRecDepth 100000 in
set_option maxHeartbeats 2000000 in
theorem pairs_nil (hd : w.cell? ⟨db, 0, none⟩ = some (.map (some mb))) (hm : MapKV w mb []) (s t : ByteArray) :
    Calls Tryz.prog 56 #[.pointer (some ⟨db, 0, none⟩), .string s, .string t] w (PairsPost w []) := by
  have HS := Lib.hid (sorted_at hm List.Pairwise.nil (by decide))
  clear hm
  go_enter Tryz.func56, Tryz.ntmps56
  go_wp2_with (first
    | (go_at_call 91; refine (Tryz.maps_keys _ _).mono ?_; rintro e w' ⟨rfl, rfl⟩)
    | (go_at_call 90; refine (HS.out.mono fun e w' h => (show (e = .returned (.slice none 0 0)) ∧ Below w.heap.size w w' from ⟨h.1.elim (·.2) (fun ⟨_, _, h, _⟩ => (h rfl).elim), h.2⟩)).mono ?_; rintro e w2 ⟨rfl, hb2⟩; have HB := Lib.hid hb2; clear hb2))
  refine wp_loop_rounds 1 ?_
  rw [rounds_succ]
  go_wp2
  go_ret
  exact ⟨_, rfl, ⟨World.ownsRow_nil _ _ _ _, AllS.nil _⟩, HB.out⟩
set_option maxRecDepth 100000 in
set_option maxHeartbeats 2000000 in
theorem pairs_some (hne : L ≠ []) (hd : w.cell? ⟨db, 0, none⟩ = some (.map (some mb))) (hm : MapKV w mb L) (hri : Rising L) (hL : L.length ≤ 12) (hks : ∀ p ∈ L, p.1.length ≤ maxLen) (s t : ByteArray) :
    Calls Tryz.prog 56 #[.pointer (some ⟨db, 0, none⟩), .string s, .string t] w (PairsPost w (L.filter (inB s.data.toList t.data.toList))) := by
  have HS := Lib.hid (sorted_at hm hri hL)
  have HM := Lib.hid hm
  have HR := Lib.hid hri
  have HK := Lib.hid hks
  have HN := Lib.hid hne
  clear hm hri hks hne
  go_enter Tryz.func56, Tryz.ntmps56
  go_wp2_with (first
    | (go_at_call 91; refine (Tryz.maps_keys _ _).mono ?_; rintro e w' ⟨rfl, rfl⟩)
    | (go_at_call 90; refine (HS.out.mono fun e w' h => (show (∃ kb cap, e = .returned (.slice (some ⟨kb, 0, none⟩) L.length cap) ∧ ∀ j (p : Bs × Bs), L[j]? = some p → w'.cell? ⟨kb, j, none⟩ = some (sv p.1)) ∧ Below w.heap.size w w' from ⟨h.1.elim (fun h => (HN.out h.1).elim) (fun ⟨kb, cap, _, h⟩ => ⟨kb, cap, h⟩), h.2⟩)).mono ?_; rintro e w2 ⟨⟨kb, cap, rfl, hkc⟩, hb2⟩; have HC := Lib.hid hkc; have HB := Lib.hid hb2; clear hkc hb2))
  go_loopw [7, 17] (fun out i wr => ∃ j : Nat, j ≤ L.length ∧ i = .int .i64 j ∧ Hid (PrW w2 db mb L s.data.toList t.data.toList j out wr)) (fun _ i _ => L.length - (intOf i).toNat)
  case atStart => exact ⟨0, Nat.zero_le _, rfl, Lib.hid ⟨⟨World.ownsRow_nil _ _ _ _, AllS.nil _⟩, Below.refl _ _⟩⟩
  case round =>
    obtain ⟨j, hj, rfl, HP⟩ := hrel
    have HBD : Hid (((L.take j).filter (inB s.data.toList t.data.toList)).length + 1 ≤ 1073741824) := by
      have h1 := List.length_filter_le (inB s.data.toList t.data.toList) (L.take j)
      rw [List.length_take] at h1
      show _ ≤ _
      omega
    by_cases hjl : j < L.length
    · obtain ⟨p, hp⟩ : ∃ p, L[j]? = some p := ⟨_, List.getElem?_eq_getElem hjl⟩
      have hc0 := HC.out j p hp
      have hkc := (HP.out.below.cell (World.block_lt_of_cell? _ _ hc0)).trans hc0
      have hbw : Below w.heap.size w wr := HB.out.trans (HP.out.below.mono HB.out.size)
      have hdr := (hbw.cell (World.block_lt_of_cell? _ _ hd)).trans hd
      have hmem : p ∈ L := List.mem_of_getElem? hp
      have hlk := get_run1 (HM.out.block (hbw.block mb HM.out.lt)) ⟨p.1.toArray⟩ (by have := HK.out p hmem; simpa [ByteArray.size] using this)
      rw [show (⟨p.1.toArray⟩ : ByteArray).data.toList = p.1 by simp, kv_at HR.out hp, Option.getD_some] at hlk
      have e1 : Op.bytesLess (⟨p.1.toArray⟩ : ByteArray).toList s.toList = bytesBefore p.1 s.data.toList := by rw [less_bb, ByteArray.toList_eq, ByteArray.toList_eq]
      have e2 : Op.bytesLess (⟨p.1.toArray⟩ : ByteArray).toList t.toList = bytesBefore p.1 t.data.toList := by rw [less_bb, ByteArray.toList_eq, ByteArray.toList_eq]
      have e3 : t.toList.isEmpty = t.data.toList.isEmpty := by rw [ByteArray.toList_eq]
      have hinB : inB s.data.toList t.data.toList p = (!Op.bytesLess (⟨p.1.toArray⟩ : ByteArray).toList s.toList && (t.toList.isEmpty || Op.bytesLess (⟨p.1.toArray⟩ : ByteArray).toList t.toList)) := by rw [e1, e2, e3]; rfl
      clear hc0 hbw hmem e1 e2 e3
      cases g1 : Op.bytesLess (⟨p.1.toArray⟩ : ByteArray).toList s.toList
      · cases g2 : t.toList.isEmpty
        · cases g3 : Op.bytesLess (⟨p.1.toArray⟩ : ByteArray).toList t.toList
          · have hin : inB s.data.toList t.data.toList p = false := by rw [hinB, g1, g2, g3]; rfl
            clear hinB
            have HSK := Lib.hid (HP.out.skip hp hin)
            unfold sv at hkc hlk
            generalize (⟨p.1.toArray⟩ : ByteArray) = pk at *
            generalize (⟨p.2.toArray⟩ : ByteArray) = pv at *
            clear hin hp
            go_wp2
            go_roundw
            case rel => exact ⟨j + 1, by omega, rfl, HSK.out⟩
            case measure => simp [intOf]; omega
          · have hin : inB s.data.toList t.data.toList p = true := by rw [hinB, g1, g2, g3]; rfl
            clear hinB
            have HAPP := Lib.hid (fun v' w1 w3 => HP.out.app (v' := v') (w1 := w1) (w2 := w3) hp hin)
            unfold sv at HAPP hkc hlk
            generalize (⟨p.1.toArray⟩ : ByteArray) = pk at *
            generalize (⟨p.2.toArray⟩ : ByteArray) = pv at *
            clear hin hp
            have hfd := field_run pv
            go_wp2_with (at_builtin; refine wpList_app (v := u7) rfl (.tmp 33) (.tmp 43) rfl rfl rfl (HP.out.row.1.alloc _) (HP.out.row.2.alloc _) (Src.one wr pk pv _) HBD.out (Nat.le_trans HP.out.below.size (by simp)) ?_; intro v3 w3 hrow3 hall3 hg3; have HP3 := Lib.hid (HAPP.out v3 _ w3 (HP.out.below.alloc HP.out.below.size _) (HP.out.row.1.alloc _) hg3 hrow3 hall3); clear hrow3 hall3 hg3)
            go_roundw
            case rel => exact ⟨j + 1, by omega, rfl, HP3⟩
            case measure => simp [intOf]; omega
        · have hin : inB s.data.toList t.data.toList p = true := by rw [hinB, g1, g2]; rfl
          clear hinB
          have HAPP := Lib.hid (fun v' w1 w3 => HP.out.app (v' := v') (w1 := w1) (w2 := w3) hp hin)
          unfold sv at HAPP hkc hlk
          generalize (⟨p.1.toArray⟩ : ByteArray) = pk at *
          generalize (⟨p.2.toArray⟩ : ByteArray) = pv at *
          clear hin hp
          have hfd := field_run pv
          go_wp2_with (at_builtin; refine wpList_app (v := u7) rfl (.tmp 33) (.tmp 43) rfl rfl rfl (HP.out.row.1.alloc _) (HP.out.row.2.alloc _) (Src.one wr pk pv _) HBD.out (Nat.le_trans HP.out.below.size (by simp)) ?_; intro v3 w3 hrow3 hall3 hg3; have HP3 := Lib.hid (HAPP.out v3 _ w3 (HP.out.below.alloc HP.out.below.size _) (HP.out.row.1.alloc _) hg3 hrow3 hall3); clear hrow3 hall3 hg3)
          go_roundw
          case rel => exact ⟨j + 1, by omega, rfl, HP3⟩
          case measure => simp [intOf]; omega
      · have hin : inB s.data.toList t.data.toList p = false := by rw [hinB, g1]; rfl
        clear hinB
        have HSK := Lib.hid (HP.out.skip hp hin)
        unfold sv at hkc hlk
        generalize (⟨p.1.toArray⟩ : ByteArray) = pk at *
        generalize (⟨p.2.toArray⟩ : ByteArray) = pv at *
        clear hin hp
        go_wp2
        go_roundw
        case rel => exact ⟨j + 1, by omega, rfl, HSK.out⟩
        case measure => simp [intOf]; omega
    · obtain rfl : j = L.length := by omega
      have HE := Lib.hid HP.out.row
      rw [List.take_length] at HE
      go_wp2
      go_ret
      exact ⟨_, rfl, row_end HE.out.1 HE.out.2 HB.out.size rfl, HB.out.trans (HP.out.below.mono HB.out.size)⟩
theorem pairs_c (hd : w.cell? ⟨db, 0, none⟩ = some (.map (some mb))) (hm : MapKV w mb L) (hri : Rising L) (hL : L.length ≤ 12) (hks : ∀ p ∈ L, p.1.length ≤ maxLen) (s t : ByteArray) :
    Calls Tryz.prog 56 #[.pointer (some ⟨db, 0, none⟩), .string s, .string t] w (PairsPost w (L.filter (inB s.data.toList t.data.toList))) := by
  by_cases hne : L = []
  · subst hne; exact pairs_nil hd hm s t
  · exact pairs_some hne hd hm hri hL hks s t
end
end Go.Proofs.YtkpekiajdlolnabGreat

/-
  CONTRACTS OF THE DOCUMENT's SIDE (lone), eighth text: Scan.
-/
namespace Go.Proofs.YtkpekiajdlolnabGreat
open Go.RowKit Go.Maps

/-- the pairs asked for, of the first i shards. -/
def cat (L : Nat → KV) (f : Bs × Bs → Bool) : Nat → KV
  | 0 => []
  | i + 1 => cat L f i ++ (L i).filter f
/-- behind j pairs of the i-th shard. -/
def scanned (L : Nat → KV) (f : Bs × Bs → Bool) (most : Nat) (i j : Nat) : KV := (cat L f i ++ ((L i).take j).filter f).take most
theorem scanned_next {L : Nat → KV} {f : Bs × Bs → Bool} {most i : Nat} : scanned L f most i (L i).length = scanned L f most (i + 1) 0 := by
  unfold scanned
  rw [List.take_length]
  simp [cat]
theorem scanned_succ {L : Nat → KV} {f : Bs × Bs → Bool} {most i j : Nat} {p : Bs × Bs} (hp : (L i)[j]? = some p) :
    scanned L f most i (j + 1) = if f p && decide ((scanned L f most i j).length < most) then scanned L f most i j ++ [p] else scanned L f most i j := by
  unfold scanned
  rw [filter_take_succ f hp]
  cases hf : f p
  · simp
  · simp only [if_true, Bool.true_and, decide_eq_true_eq]
    rw [← List.append_assoc]
    generalize cat L f i ++ List.filter f (List.take j (L i)) = X
    split
    · rename_i hlt
      rw [List.length_take] at hlt
      rw [List.take_of_length_le (by simp; omega), List.take_of_length_le (by omega)]
    · rename_i hge
      rw [List.length_take] at hge
      rw [List.take_append_of_le_length (by omega)]
theorem cat_le {L : Nat → KV} {f : Bs × Bs → Bool} (h : ∀ i, i < 4 → (L i).length ≤ 12) : ∀ i, i ≤ 4 → (cat L f i).length ≤ i * 12
  | 0, _ => by simp [cat]
  | i + 1, hi => by
    have := cat_le (f := f) h i (by omega)
    have h2 := List.length_filter_le f (L i)
    have h3 := h i (by omega)
    simp only [cat, List.length_append]
    omega
theorem scanned_le {L : Nat → KV} {f : Bs × Bs → Bool} {most i j : Nat} (h : ∀ i, i < 4 → (L i).length ≤ 12) (hi : i < 4) : (scanned L f most i j).length ≤ 48 := by
  unfold scanned
  have := cat_le (f := f) h i (by omega)
  have h2 := List.length_filter_le f ((L i).take j)
  have h3 := h i hi
  rw [List.length_take] at h2
  rw [List.length_take, List.length_append]
  omega
def RScanPost (w : World) (l : KV) (e : Ending) (w' : World) : Prop := ∃ v, e = .returned (.tuple #[v, .int .i64 0]) ∧ RowKV w' w.heap.size v l ∧ Below w.heap.size w w'
/-- a Scan's loops. -/
structure ScW (W : World) (ml sb : Nat) (lv : Nat → Value) (L : Nat → KV) (f : Bs × Bs → Bool) (most i j : Nat) (out : Value) (w : World) : Prop where
  row : RowKV w W.heap.size out (scanned L f most i j)
  below : Below W.heap.size W w
  mdl : Mdl w ml sb lv L
section
variable {w : World} {ml sb : Nat} {lv : Nat → Value} {L : Nat → KV} {f : Bs × Bs → Bool} {most i j : Nat} {out : Value}
theorem ScW.alloc {W : World} (h : ScW W ml sb lv L f most i j out w) (o : Obj) : ScW W ml sb lv L f most i j out (w.alloc o) :=
  ⟨⟨h.row.1.alloc o, h.row.2.alloc o⟩, h.below.alloc h.below.size o, h.mdl.below ((Below.refl _ _).alloc (Nat.le_refl _) o)⟩
theorem ScW.next {W : World} (h : ScW W ml sb lv L f most i (L i).length out w) : ScW W ml sb lv L f most (i + 1) 0 out w := ⟨scanned_next ▸ h.row, h.below, h.mdl⟩
theorem ScW.skip {W : World} (h : ScW W ml sb lv L f most i j out w) {p : Bs × Bs} (hp : (L i)[j]? = some p) (hno : (f p && decide ((scanned L f most i j).length < most)) = false) : ScW W ml sb lv L f most i (j + 1) out w :=
  ⟨by rw [scanned_succ hp, hno]; exact h.row, h.below, h.mdl⟩
theorem ScW.app {W : World} (h : ScW W ml sb lv L f most i j out w) {p : Bs × Bs} (hp : (L i)[j]? = some p) (hyes : (f p && decide ((scanned L f most i j).length < most)) = true) {v' : Value} {w2 : World} (hg : w.grownBy w2 out.ownBlock)
    (hml : ml < W.heap.size) (hold : Mdl W ml sb lv L)
    (hr : w2.ownsRow W.heap.size 74 2 v' ((scanned L f most i j).length + 1) (flat (scanned L f most i j) ++ [sv p.1, sv p.2])) (ha : AllS w2 v') : ScW W ml sb lv L f most i (j + 1) v' w2 := by
  have hb := below_byGrown h.below hg h.row.1 (Nat.le_refl _) h.below.size
  refine ⟨?_, hb, hold.below hb⟩
  rw [scanned_succ hp, hyes, if_pos rfl]
  exact row_end hr ha (Nat.le_refl _) (by rw [flat_append]; rfl)
theorem Src.one2 (w : World) (o : Obj) (a b : ByteArray) (ty : TypeId) : Src ((w.alloc o).alloc (.cells #[.string a, .string b] ty)) (some ⟨w.heap.size + 1, 0, none⟩) 1 [.string a, .string b] := by
  have h := Src.one (w.alloc o) a b ty
  have e : (w.alloc o).heap.size = w.heap.size + 1 := by simp
  rwa [e] at h
theorem sv_eq {b : ByteArray} {l : Bs} (h : b.data.toList = l) : sv l = .string b := by rw [← h]; exact sv_of b
theorem own_shape {w : World} {base n : Nat} {v : Value} {xs : List Value} (h : w.ownsRow base 74 2 v n xs) : ∃ sa cp, v = .slice sa n cp := by
  rcases h.2 with ⟨rfl, hz⟩ | ⟨g, cap, cur, rfl, _⟩
  · exact ⟨none, 0, by rw [hz]⟩
  · exact ⟨_, _, rfl⟩
set_option maxRecDepth 100000 in
theorem rscan_no (s t : ByteArray) (m : Int) (hm : m < 0) : Calls Tryz.prog 28 #[.pointer (some ⟨ml, 0, none⟩), .string s, .string t, .int .i64 m] w fun e w' => e = .returned (.tuple #[.slice none 0 0, .int .i64 7]) ∧ w' = w := by
  have g1 : decide (m < 0) = true := decide_eq_true hm
  go_enter Tryz.func28, Tryz.ntmps28
  go_wp2
  go_ret2
  exact ⟨rfl, rfl⟩
set_option maxRecDepth 100000 in
set_option maxHeartbeats 4000000 in
theorem rscan_yes (hm : Mdl w ml sb lv L) (hL : ∀ i, i < 4 → (L i).length ≤ 12) (s t : ByteArray) (hmost : most ≤ 9223372036854775807) :
    Calls Tryz.prog 28 #[.pointer (some ⟨ml, 0, none⟩), .string s, .string t, .int .i64 most] w (RScanPost w ((cat L (inB s.data.toList t.data.toList) 4).take most)) := by
  have g0 : decide ((most : Int) < 0) = false := by simp
  obtain ⟨cap, hs⟩ := hm.s
  have HM := Lib.hid hm
  have HL := Lib.hid hL
  have HML := Lib.hid hm.lts.1
  clear hm hL
  obtain ⟨f, hf⟩ : ∃ f, inB s.data.toList t.data.toList = f := ⟨_, rfl⟩
  rw [hf]
  have HF := Lib.hid hf
  clear hf
  go_enter Tryz.func28, Tryz.ntmps28
  go_wp2
  go_loopw [10, 22] (fun out x wr => ∃ i : Nat, i ≤ 4 ∧ x = .int .i64 i ∧ ∃ sa n cp, out = .slice sa n cp ∧ Hid (n = (scanned L f most i 0).length ∧ ScW w ml sb lv L f most i 0 (.slice sa n cp) wr)) (fun _ x _ => 4 - (intOf x).toNat)
  case atStart => exact ⟨0, by omega, rfl, none, 0, 0, rfl, Lib.hid ⟨by simp [scanned, cat], ⟨by simpa [scanned, cat, flat_nil] using World.ownsRow_nil w w.heap.size 74 2, AllS.nil _⟩, Below.refl _ _, HM.out⟩⟩
  case round =>
    obtain ⟨i, hi, rfl, sa, n, cp, rfl, HP⟩ := hrel
    by_cases hi4 : i < 4
    · obtain ⟨c1, c2, _⟩ := HP.out.2.mdl.cl hi4
      obtain ⟨o, c0⟩ := HP.out.2.mdl.owner hi4
      rcases (HP.out.2.mdl.r i hi4).1.2 with ⟨hnil, hz⟩ | ⟨g, gc, cur, hv, _⟩
      · rw [hnil] at c1
        have HX := Lib.hid (fun (o : Obj) => (show ScW w ml sb lv L f most i (L i).length (.slice sa n cp) _ from hz ▸ HP.out.2.alloc o).next)
        have HNX : Hid (scanned L f most i 0 = scanned L f most (i + 1) 0) := by rw [← scanned_next, hz]; rfl
        clear hnil hz
        go_wp2
        refine wp_loop_rounds 1 ?_
        rw [rounds_succ]
        go_wp2
        go_roundw
        case rel => exact ⟨i + 1, by omega, rfl, sa, n, cp, rfl, Lib.hid ⟨by rw [← HNX.out]; exact HP.out.1, HX.out _⟩⟩
        case measure => simp [intOf]; omega
      · rw [hv] at c1
        have HV := Lib.hid hv
        have HLi := HL.out i hi4
        clear hv
        go_wp2
        go_loopw [10, 29] (fun out x wr2 => ∃ j : Nat, j ≤ (L i).length ∧ x = .int .i64 j ∧ ∃ sa n cp, out = .slice sa n cp ∧ Hid (n = (scanned L f most i j).length ∧ ScW w ml sb lv L f most i j (.slice sa n cp) wr2)) (fun _ x _ => (L i).length - (intOf x).toNat)
        case atStart => exact ⟨0, by omega, rfl, sa, n, cp, rfl, Lib.hid ⟨HP.out.1, HP.out.2.alloc _⟩⟩
        case round =>
          obtain ⟨j, hj, rfl, sa2, n2, cp2, rfl, HP2⟩ := hrel
          have HBD : Hid ((scanned L f most i j).length + 1 ≤ 1073741824) := by
            have := scanned_le (f := f) (most := most) (j := j) HL.out hi4
            show _ ≤ _
            omega
          by_cases hjl : j < (L i).length
          · obtain ⟨p, hp⟩ : ∃ p, (L i)[j]? = some p := ⟨_, List.getElem?_eq_getElem hjl⟩
            obtain ⟨q1, q2⟩ := flat_get (L i) j p hp
            have d1 := (HP2.out.2.mdl.r i hi4).1.cells (g := g) (by rw [HV.out]; rfl) _ _ q1
            have d2 := (HP2.out.2.mdl.r i hi4).1.cells (g := g) (by rw [HV.out]; rfl) _ _ q2
            rw [Addr.add_lit, Nat.zero_add] at d1 d2
            have HPP := Lib.hid hp
            obtain ⟨pk, e1⟩ : ∃ b : ByteArray, b.data.toList = p.1 := ⟨⟨p.1.toArray⟩, by simp⟩
            obtain ⟨pv, e2⟩ : ∃ b : ByteArray, b.data.toList = p.2 := ⟨⟨p.2.toArray⟩, by simp⟩
            rw [sv_eq e1] at d1
            rw [sv_eq e2] at d2
            have HPP0 := Lib.hid (And.intro e1 e2)
            have hinB : f p = (!Op.bytesLess pk.toList s.toList && (t.toList.isEmpty || Op.bytesLess pk.toList t.toList)) := by
              rw [← HF.out, less_bb, less_bb, ByteArray.toList_eq, ByteArray.toList_eq, ByteArray.toList_eq, e1]; rfl
            clear q1 q2 hp e1 e2
            cases g1 : Op.bytesLess pk.toList s.toList
            · by_cases hlt : n2 < most
              · have g4 : decide ((n2 : Int) < (most : Int)) = true := by simp; omega
                cases g2 : t.toList.isEmpty
                · cases g3 : Op.bytesLess pk.toList t.toList
                  · have hfp : f p = false := by rw [hinB, g1, g2, g3]; rfl
                    clear hinB
                    have hno : (f p && decide ((scanned L f most i j).length < most)) = false := by rw [hfp]; rfl
                    have HSK := Lib.hid (fun o => (HP2.out.2.alloc o).skip HPP.out hno)
                    have HLN := Lib.hid (scanned_succ (most := most) (f := f) HPP.out)
                    rw [hno] at HLN
                    clear hno hfp
                    go_wp2
                    go_roundw
                    case rel => exact ⟨j + 1, by omega, rfl, sa2, n2, cp2, rfl, Lib.hid ⟨by rw [HLN.out]; exact HP2.out.1, HSK.out _⟩⟩
                    case measure => simp [intOf]; omega
                  · have hfp : f p = true := by rw [hinB, g1, g2, g3]; rfl
                    clear hinB
                    have hyes : (f p && decide ((scanned L f most i j).length < most)) = true := by simp only [hfp, Bool.true_and]; exact decide_eq_true (by rw [← HP2.out.1]; exact hlt)
                    have HAPP := Lib.hid (fun (v' : Value) (w1 w2 : World) (h : ScW w ml sb lv L f most i j (.slice sa2 n2 cp2) w1) => h.app (v' := v') (w2 := w2) HPP.out hyes)
                    have HLN := Lib.hid (scanned_succ (most := most) (f := f) HPP.out)
                    rw [hyes] at HLN
                    have HSV := Lib.hid (And.intro (sv_eq HPP0.out.1) (sv_eq HPP0.out.2))
                    clear hyes hfp
                    go_wp2_with (at_builtin; refine wpList_app (v := .slice sa2 n2 cp2) rfl (.tmp 53) (.tmp 55) rfl rfl rfl ((HP2.out.2.alloc _).row.1.alloc _) ((HP2.out.2.alloc _).row.2.alloc _) (Src.one2 _ _ pk pv _) HBD.out (Nat.le_trans HP2.out.2.below.size (by simp; omega)) ?_; intro v3 w3 hrow3 hall3 hg3; obtain ⟨sa3, cp3, hv3⟩ := own_shape hrow3; have HP3 := Lib.hid (HAPP.out v3 _ w3 ((HP2.out.2.alloc _).alloc _) hg3 HML.out HM.out (by rw [HSV.out.1, HSV.out.2]; exact hrow3) hall3); rw [hv3] at HP3; rw [hv3]; clear hrow3 hall3 hg3 hv3)
                    go_roundw
                    case rel => exact ⟨_, _, _, ⟨j + 1, by omega, rfl, sa3, _, cp3, rfl, Lib.hid ⟨by rw [HLN.out]; simp, HP3.out⟩⟩, rfl, rfl, rfl⟩
                    case measure => simp [intOf]; omega
                · have hfp : f p = true := by rw [hinB, g1, g2]; rfl
                  clear hinB
                  have hyes : (f p && decide ((scanned L f most i j).length < most)) = true := by simp only [hfp, Bool.true_and]; exact decide_eq_true (by rw [← HP2.out.1]; exact hlt)
                  have HAPP := Lib.hid (fun (v' : Value) (w1 w2 : World) (h : ScW w ml sb lv L f most i j (.slice sa2 n2 cp2) w1) => h.app (v' := v') (w2 := w2) HPP.out hyes)
                  have HLN := Lib.hid (scanned_succ (most := most) (f := f) HPP.out)
                  rw [hyes] at HLN
                  have HSV := Lib.hid (And.intro (sv_eq HPP0.out.1) (sv_eq HPP0.out.2))
                  clear hyes hfp
                  go_wp2_with (at_builtin; refine wpList_app (v := .slice sa2 n2 cp2) rfl (.tmp 53) (.tmp 55) rfl rfl rfl ((HP2.out.2.alloc _).row.1.alloc _) ((HP2.out.2.alloc _).row.2.alloc _) (Src.one2 _ _ pk pv _) HBD.out (Nat.le_trans HP2.out.2.below.size (by simp; omega)) ?_; intro v3 w3 hrow3 hall3 hg3; obtain ⟨sa3, cp3, hv3⟩ := own_shape hrow3; have HP3 := Lib.hid (HAPP.out v3 _ w3 ((HP2.out.2.alloc _).alloc _) hg3 HML.out HM.out (by rw [HSV.out.1, HSV.out.2]; exact hrow3) hall3); rw [hv3] at HP3; rw [hv3]; clear hrow3 hall3 hg3 hv3)
                  go_roundw
                  case rel => exact ⟨_, _, _, ⟨j + 1, by omega, rfl, sa3, _, cp3, rfl, Lib.hid ⟨by rw [HLN.out]; simp, HP3.out⟩⟩, rfl, rfl, rfl⟩
                  case measure => simp [intOf]; omega
              · have g4 : decide ((n2 : Int) < (most : Int)) = false := by simp; omega
                cases g2 : t.toList.isEmpty
                · cases g3 : Op.bytesLess pk.toList t.toList
                  · have hfp : f p = false := by rw [hinB, g1, g2, g3]; rfl
                    clear hinB
                    have hno : (f p && decide ((scanned L f most i j).length < most)) = false := by rw [hfp]; rfl
                    have HSK := Lib.hid (fun o => (HP2.out.2.alloc o).skip HPP.out hno)
                    have HLN := Lib.hid (scanned_succ (most := most) (f := f) HPP.out)
                    rw [hno] at HLN
                    clear hno hfp
                    go_wp2
                    go_roundw
                    case rel => exact ⟨j + 1, by omega, rfl, sa2, n2, cp2, rfl, Lib.hid ⟨by rw [HLN.out]; exact HP2.out.1, HSK.out _⟩⟩
                    case measure => simp [intOf]; omega
                  · have hfp : f p = true := by rw [hinB, g1, g2, g3]; rfl
                    clear hinB
                    have hno : (f p && decide ((scanned L f most i j).length < most)) = false := by simp only [hfp, Bool.true_and]; exact decide_eq_false (by rw [← HP2.out.1]; exact hlt)
                    have HSK := Lib.hid (fun o => (HP2.out.2.alloc o).skip HPP.out hno)
                    have HLN := Lib.hid (scanned_succ (most := most) (f := f) HPP.out)
                    rw [hno] at HLN
                    clear hno hfp
                    go_wp2
                    go_roundw
                    case rel => exact ⟨j + 1, by omega, rfl, sa2, n2, cp2, rfl, Lib.hid ⟨by rw [HLN.out]; exact HP2.out.1, HSK.out _⟩⟩
                    case measure => simp [intOf]; omega
                · have hfp : f p = true := by rw [hinB, g1, g2]; rfl
                  clear hinB
                  have hno : (f p && decide ((scanned L f most i j).length < most)) = false := by simp only [hfp, Bool.true_and]; exact decide_eq_false (by rw [← HP2.out.1]; exact hlt)
                  have HSK := Lib.hid (fun o => (HP2.out.2.alloc o).skip HPP.out hno)
                  have HLN := Lib.hid (scanned_succ (most := most) (f := f) HPP.out)
                  rw [hno] at HLN
                  clear hno hfp
                  go_wp2
                  go_roundw
                  case rel => exact ⟨j + 1, by omega, rfl, sa2, n2, cp2, rfl, Lib.hid ⟨by rw [HLN.out]; exact HP2.out.1, HSK.out _⟩⟩
                  case measure => simp [intOf]; omega
            · have hfp : f p = false := by rw [hinB, g1]; rfl
              clear hinB
              have hno : (f p && decide ((scanned L f most i j).length < most)) = false := by rw [hfp]; rfl
              have HSK := Lib.hid (fun o => (HP2.out.2.alloc o).skip HPP.out hno)
              have HLN := Lib.hid (scanned_succ (most := most) (f := f) HPP.out)
              rw [hno] at HLN
              clear hno hfp
              go_wp2
              go_roundw
              case rel => exact ⟨j + 1, by omega, rfl, sa2, n2, cp2, rfl, Lib.hid ⟨by rw [HLN.out]; exact HP2.out.1, HSK.out _⟩⟩
              case measure => simp [intOf]; omega
          · obtain rfl : j = (L i).length := by omega
            have HNX : Hid (scanned L f most i (L i).length = scanned L f most (i + 1) 0) := Lib.hid scanned_next
            have HX := Lib.hid HP2.out.2.next
            go_wp2
            go_roundw
            case rel => exact ⟨i + 1, by omega, rfl, sa2, n2, cp2, rfl, Lib.hid ⟨by rw [← HNX.out]; exact HP2.out.1, HX.out⟩⟩
            case measure => simp [intOf]; omega
    · obtain rfl : i = 4 := by omega
      have HE := Lib.hid HP.out.2
      go_wp2
      go_ret2
      exact ⟨_, rfl, by simpa [scanned] using HE.out.row, HE.out.below⟩
end
end Go.Proofs.YtkpekiajdlolnabGreat

/-
  CONTRACTS OF THE DOCUMENT's SIDE (lone), seventh text: New.
-/
namespace Go.Proofs.YtkpekiajdlolnabGreat
open Go.RowKit Go.Maps

theorem shardInfo : ∃ i, Tryz.prog.info? 104 = some i ∧ i.zero = some (.agg #[.int .i64 0, .slice none 0 0, .pointer none]) ∧ i.size = 3 ∧ i.bytes = 40 := by
  have h : (Tryz.prog.info? 104).map (fun i => (i.zero, i.size, i.bytes)) = some (some (.agg #[.int .i64 0, .slice none 0 0, .pointer none]), 3, 40) := by kernel_rfl
  obtain ⟨i, h1, h2⟩ := Option.map_eq_some_iff.1 h
  injection h2 with h2 h3
  injection h3 with h3 h4
  exact ⟨i, h1, h2, h3, h4⟩
def srows (h : Nat) : Nat → List Value
  | 0 => []
  | j + 1 => srows h j ++ [.int .i64 ((j : Int).tmod (h : Int)), .slice none 0 0, .pointer none]
theorem srows_get (h : Nat) : ∀ j i, i < j → (srows h j)[i * 3 + 1]? = some (.slice none 0 0) ∧ (srows h j)[i * 3 + 2]? = some (.pointer none) ∧ ∃ o : Int, (srows h j)[i * 3]? = some (.int .i64 o)
  | 0, i, hi => by omega
  | j + 1, i, hi => by
    have hl : ∀ j, (srows h j).length = j * 3 := fun j => by
      induction j with
      | zero => rfl
      | succ j ih => simp only [srows, List.length_append, ih, List.length_cons, List.length_nil]; omega
    unfold srows
    by_cases e : i = j
    · subst e
      rw [List.getElem?_append_right (by rw [hl]; omega), List.getElem?_append_right (by rw [hl]; omega), List.getElem?_append_right (by rw [hl]; omega), hl, show i * 3 + 1 - i * 3 = 1 by omega, show i * 3 + 2 - i * 3 = 2 by omega, show i * 3 - i * 3 = 0 by omega]
      exact ⟨rfl, rfl, _, rfl⟩
    · rw [List.getElem?_append_left (by rw [hl]; omega), List.getElem?_append_left (by rw [hl]; omega), List.getElem?_append_left (by rw [hl]; omega)]
      exact srows_get h j i (by omega)
theorem cells3 (w : World) (a b c : Value) (ty : TypeId) : ∀ (j : Nat) (u : Value), [a, b, c][j]? = some u → (w.alloc (.cells #[a, b, c] ty)).cell? ((⟨w.heap.size, 0, none⟩ : Addr).add j) = some u := fun j u hj => by
  rw [Addr.add_lit, Nat.zero_add]
  match j, hj with
  | 0, hj => simp at hj; subst hj; go_simp
  | 1, hj => simp at hj; subst hj; go_simp
  | 2, hj => simp at hj; subst hj; go_simp
/-- New's loop. -/
structure RNew (W w : World) (h ml j : Nat) (S : Value) : Prop where
  b : ∃ mc, w.heap[ml]? = some (.cells mc 101 (0, 0)) ∧ mc[1]? = some S
  row : w.ownsRow (ml + 1) 104 3 S j (srows h j)
  lo : W.heap.size ≤ ml
  below : Below W.heap.size W w
section
variable {W w w1 w3 : World} {h ml j : Nat} {S : Value}
theorem RNew.cell (H : RNew W w h ml j S) : w.cell? ⟨ml, 1, none⟩ = some S ∧ w.frozen? ⟨ml, 1, none⟩ = false ∧ ml < w.heap.size := by
  obtain ⟨mc, h1, h2⟩ := H.b
  exact ⟨by simp [World.cell?, h1, h2], by simp [World.frozen?, h1], (Array.getElem?_eq_some_iff.1 h1).1⟩
theorem RNew.app {g cap : Nat} {xs : List Value} (H : RNew W w h ml j S) (o : Obj) (hw : w1 = (w.alloc o).drew) (hg : w1.grownBy w3 S.ownBlock) (hr : w3.ownsRow (ml + 1) 104 3 (.slice (some ⟨g, 0, none⟩) (j + 1) cap) (j + 1) xs) :
    w3.cell? ⟨ml, 1, none⟩ = some S ∧ w3.frozen? ⟨ml, 1, none⟩ = false ∧ (xs = srows h (j + 1) → RNew W (w3.setCell ⟨ml, 1, none⟩ (.slice (some ⟨g, 0, none⟩) (j + 1) cap)) h ml (j + 1) (.slice (some ⟨g, 0, none⟩) (j + 1) cap)) := by
  subst hw
  obtain ⟨mc, h1, h2⟩ := H.b
  have hlt := H.cell.2.2
  have hne : some ml ≠ S.ownBlock := fun e => by have := (H.row.lt ml e.symm).1; omega
  have hb3 : w3.heap[ml]? = some (.cells mc 101 (0, 0)) := (hg.block ml (by simp; omega) hne).trans ((heap_alloc_old w o hlt).trans h1)
  refine ⟨by simp [World.cell?, hb3, h2], by simp [World.frozen?, hb3], fun e => ?_⟩
  subst e
  have hbel : Below W.heap.size W w3 := (show Below W.heap.size W (w.alloc o).drew from (H.below.alloc H.below.size o).drew).grown hg (by have := H.below.size; simp; omega) fun k hk => by have := (H.row.lt k hk).1; have := H.lo; omega
  refine ⟨⟨_, heap_setCell_same w3 ml 1 mc _ _ hb3, ?_⟩, ?_, H.lo, hbel.setCell H.lo _⟩
  · rw [Array.getElem?_setIfInBounds_self_of_lt ((Array.getElem?_eq_some_iff.1 h2).1)]
  · refine ownsRow_setCell_other hr (fun e => ?_) _
    have := (hr.lt ml e).1
    omega
def RNewPost (w : World) (e : Ending) (w' : World) : Prop := ∃ ml sb lv, e = .returned (.tuple #[.pointer (some ⟨ml, 0, none⟩), .bool true]) ∧ w.heap.size ≤ ml ∧ w.heap.size ≤ sb ∧ Mdl w' ml sb lv (fun _ => []) ∧ Below w.heap.size w w'
theorem RNew.mdl (H : RNew W w h ml 4 S) : ∃ sb lv, W.heap.size ≤ sb ∧ Mdl w ml sb lv (fun _ => []) := by
  obtain ⟨mc, h1, h2⟩ := H.b
  rcases H.row.2 with ⟨_, hz⟩ | ⟨g, cap, cur, rfl, hg, hb, hc, hm, hs, ht⟩
  · cases hz
  · refine ⟨g, fun _ => .slice none 0 0, by have := H.lo; omega, ⟨⟨cap, H.cell.1⟩, ⟨mc, h1⟩, ⟨cur, hb, fun i hi => ?_⟩, fun i hi => ⟨World.ownsRow_nil _ _ _ _, AllS.nil _⟩⟩⟩
    obtain ⟨g1, g2, o, g3⟩ := srows_get h 4 i hi
    rw [← ht] at g1 g2 g3
    rw [List.getElem?_take_of_lt (by omega)] at g1 g2 g3
    exact ⟨by simpa using g1, by simpa using g2, o, by simpa using g3⟩
set_option maxRecDepth 100000 in
theorem rnew_no (h : Int) (hh : h < 2 ∨ 4 < h) (hh2 : -9223372036854775808 ≤ h ∧ h ≤ 9223372036854775807) : Calls Tryz.prog 22 #[.int .i64 h] w fun e w' => e = .returned (.tuple #[.pointer none, .bool false]) ∧ w' = w := by
  rcases Int.lt_or_le h 2 with h2 | h2
  · have g1 : decide (h < 2) = true := by simp; omega
    go_enter Tryz.func22, Tryz.ntmps22
    go_wp2
    go_ret2
    exact ⟨rfl, rfl⟩
  · have g1 : decide (h < 2) = false := by simp; omega
    have g2 : decide (4 < h) = true := by simp; omega
    go_enter Tryz.func22, Tryz.ntmps22
    go_wp2
    go_ret2
    exact ⟨rfl, rfl⟩
set_option maxRecDepth 100000 in
set_option maxHeartbeats 1000000 in
theorem rnew_yes (h : Nat) (h2 : 2 ≤ h) (h4 : h ≤ 4) : Calls Tryz.prog 22 #[.int .i64 h] w (RNewPost w) := by
  have g1 : decide ((h : Int) < 2) = false := by simp; omega
  have g2 : decide ((4 : Int) < h) = false := by simp; omega
  have hh0 : ¬ h = 0 := by omega
  obtain ⟨si, s1, s2, s3, s4⟩ := shardInfo
  have HS := Lib.hid (And.intro s1 (And.intro s2 (And.intro s3 s4)))
  clear s1 s2 s3 s4
  go_enter Tryz.func22, Tryz.ntmps22
  go_wp2
  go_loopw [5] (fun i wr => ∃ j : Nat, j ≤ 4 ∧ i = .int .i64 j ∧ Hid (∃ S, RNew w wr h w.heap.size j S)) (fun i _ => 4 - (intOf i).toNat)
  case atStart =>
    refine ⟨0, by omega, rfl, Lib.hid ⟨.slice none 0 0, ⟨_, heap_alloc_new _ _, ?_⟩, World.ownsRow_nil _ _ _ _, Nat.le_refl _, (Below.refl _ _).alloc (Nat.le_refl _) _⟩⟩
    rfl
  case round =>
    obtain ⟨j, hj, rfl, HN⟩ := hrel
    by_cases hj4 : j < 4
    · obtain ⟨S, hN⟩ := HN.out
      have hN1 := Lib.hid hN
      obtain ⟨c1, f1, l1⟩ := hN1.out.cell
      clear hN
      go_wp2
      go_region_law (first | (refine step_append_lies _ rfl (.tmp 23) (.tmp 28) 98 rfl (w.heap.size + 1) 104 si _ 3 40 Tryz.underlying98 HS.out.1 HS.out.2.1 HS.out.2.2.1 HS.out.2.2.2 rfl (by decide) S j (srows h j) rfl (hN1.out.row.alloc _) ⟨wr.heap.size, 0, none⟩ 1 1 [.int .i64 ((j : Int).tmod (h : Int)), .slice none 0 0, .pointer none] rfl rfl (cells3 wr _ _ _ _) (by intro u hu; simp at hu; rcases hu with rfl | rfl | rfl <;> rfl) (by decide) (by unfold maxLen; omega) (by omega) (by simp; omega) _ rfl ?_; intro g cap w3 hrow3 hg3 hgg3 hlt3; have H3 := Lib.hid (hN1.out.app _ rfl hg3 hrow3); obtain ⟨d3, e3, _⟩ := H3.out; clear hrow3 hg3 hgg3 hlt3))
      all_goals
        go_wp2
        go_roundw
        case rel => exact ⟨j + 1, by omega, rfl, Lib.hid ⟨_, H3.out.2.2 rfl⟩⟩
        case measure => simp [intOf]; omega
    · obtain rfl : j = 4 := by omega
      obtain ⟨S, hN⟩ := HN.out
      have hN1 := Lib.hid hN
      clear hN
      go_wp2
      go_ret2
      obtain ⟨sb, lv, q1, q2⟩ := hN1.out.mdl
      exact ⟨_, sb, lv, rfl, Nat.le_refl _, q1, q2, hN1.out.below⟩
end
end Go.Proofs.YtkpekiajdlolnabGreat

/-
  CONTRACTS (lone), eighth text: New.
-/
namespace Go.Proofs.YtkpekiajdlolnabGreat
open Go.RowKit Go.Maps

section
variable {w : World}
def newD (w : World) : World := (w.alloc (.map #[] 0)).alloc (.cells #[.map (some w.heap.size)] 142)
set_option maxRecDepth 100000 in
theorem new_data : Calls Tryz.prog 39 #[] w fun e w' => e = .returned (.pointer (some ⟨w.heap.size + 1, 0, none⟩)) ∧ w' = newD w := by
  have hmm := @run_makeMap Tryz.prog
  go_enter Tryz.func39, Tryz.ntmps39
  go_wp2
  go_ret
  exact ⟨rfl, rfl⟩
theorem heap_alloc_new' (w : World) (o : Obj) {n : Nat} (h : n = w.heap.size) : (w.alloc o).heap[n]? = some o := by subst h; exact heap_alloc_new w o
theorem empty_kv {w' : World} {mb : Nat} (h : w'.heap[mb]? = some (.map #[] 0)) : MapKV w' mb [] := by
  have h0 : (({ w' with heap := #[] } : World).alloc (.map #[] 0)).ownsMap Tryz.prog 9 Rv 0 0 (DM []) := World.ownsMap_made _ _ _ _
  obtain ⟨es, ck, h1, F⟩ := h0
  have h2 : (({ w' with heap := #[] } : World).alloc (.map #[] 0)).heap[0]? = some (.map #[] 0) := rfl
  rw [h2] at h1
  cases h1
  exact ⟨#[], 0, h, F⟩
/-- New's loop: j shards stand. -/
structure NewAt (W w : World) (cl j : Nat) (db mb : Nat → Nat) : Prop where
  b : ∃ cur, w.heap[cl]? = some (.cells cur 83 (0, 0)) ∧ cur.size = 16 ∧ ∀ i, i < j → cur[1 + i * 3 + 1]? = some (.pointer (some ⟨db i, 0, none⟩)) ∧ cur[1 + i * 3 + 2]? = some (.pointer none)
  d : ∀ i, i < j → w.heap[db i]? = some (.cells #[.map (some (mb i))] 142 (0, 0)) ∧ w.heap[mb i]? = some (.map #[] 0) ∧ cl < db i ∧ cl < mb i
  ne : ∀ i i', i < j → i' < j → mb i = mb i' → i = i'
  cl : W.heap.size ≤ cl
  below : Below W.heap.size W w
theorem NewAt.cells {W w : World} {cl j : Nat} {db mb : Nat → Nat} (h : NewAt W w cl j db mb) {k : Nat} (hk : k < 16) : (∃ v, w.cell? ⟨cl, k, none⟩ = some v) ∧ w.frozen? ⟨cl, k, none⟩ = false := by
  obtain ⟨cur, h1, h2, _⟩ := h.b
  exact ⟨⟨cur[k]'(by omega), by simp [World.cell?, h1, show k < cur.size by omega]⟩, by simp [World.frozen?, h1]⟩
theorem NewAt.lt {W w : World} {cl j : Nat} {db mb : Nat → Nat} (h : NewAt W w cl j db mb) : cl < w.heap.size := by
  obtain ⟨cur, h1, _⟩ := h.b
  exact (Array.getElem?_eq_some_iff.1 h1).1
/-- behind shard.New. -/
theorem NewAt.made {W w w' : World} {cl j : Nat} {db mb : Nat → Nat} (h : NewAt W w cl j db mb) (e : w' = newD (w.drewN 1)) :
    NewAt W w' cl j db mb ∧ w'.heap[w.heap.size + 1]? = some (.cells #[.map (some w.heap.size)] 142 (0, 0)) ∧ w'.heap[w.heap.size]? = some (.map #[] 0) ∧ (∀ i, i < j → mb i < w.heap.size) ∧ cl < w.heap.size ∧ w'.heap.size = w.heap.size + 2 := by
  subst e
  have hz : (newD (w.drewN 1)).heap = (w.heap.push (.map #[] 0)).push (.cells #[.map (some w.heap.size)] 142 (0, 0)) := rfl
  have old : ∀ b, b < w.heap.size → (newD (w.drewN 1)).heap[b]? = w.heap[b]? := fun b hb => by
    rw [hz, Array.getElem?_push, if_neg (by simp; omega), Array.getElem?_push, if_neg (by omega)]
  obtain ⟨cur, h1, h2, h3⟩ := h.b
  refine ⟨⟨⟨cur, (old _ h.lt).trans h1, h2, h3⟩, fun i hi => ?_, h.ne, h.cl, ?_⟩, ?_, ?_, fun i hi => ?_, h.lt, ?_⟩
  · obtain ⟨h4, h5, h6⟩ := h.d i hi
    exact ⟨(old _ (Array.getElem?_eq_some_iff.1 h4).1).trans h4, (old _ (Array.getElem?_eq_some_iff.1 h5).1).trans h5, h6⟩
  · exact ⟨h.below.os, h.below.tape, h.below.output, by rw [hz]; have := h.below.size; simp; omega, fun k hk => (old k (Nat.lt_of_lt_of_le hk h.below.size)).trans (h.below.block k hk)⟩
  · rw [hz, Array.getElem?_push, if_pos (by simp)]
  · rw [hz, Array.getElem?_push, if_neg (by simp), Array.getElem?_push, if_pos rfl]
  · exact (Array.getElem?_eq_some_iff.1 (h.d i hi).2.1).1
  · rw [hz]; simp
/-- behind the store. -/
theorem NewAt.stored {W w w' : World} {cl j : Nat} {db mb : Nat → Nat} {v : Value} {m : Nat} (h : NewAt W w cl j db mb) (hj : j < 4)
    (hd : w.heap[m + 1]? = some (.cells #[.map (some m)] 142 (0, 0))) (hm : w.heap[m]? = some (.map #[] 0)) (hlt : ∀ i, i < j → mb i < m) (hcl : cl < m)
    (e : w' = ((w.setCell ⟨cl, 1 + j * 3, none⟩ v).setCell ⟨cl, 1 + j * 3 + 1, none⟩ (.pointer (some ⟨m + 1, 0, none⟩))).setCell ⟨cl, 1 + j * 3 + 2, none⟩ (.pointer none)) : NewAt W w' cl (j + 1) (setV db j (m + 1)) (setV mb j m) := by
  subst e
  obtain ⟨cur, h1, h2, h3⟩ := h.b
  have s1 := heap_setCell_same w cl (1 + j * 3) cur _ v h1
  have s2 := heap_setCell_same _ cl (1 + j * 3 + 1) _ _ (.pointer (some ⟨m + 1, 0, none⟩)) s1
  have s3 := heap_setCell_same _ cl (1 + j * 3 + 2) _ _ (.pointer none) s2
  have ho : ∀ b, b ≠ cl → (((w.setCell ⟨cl, 1 + j * 3, none⟩ v).setCell ⟨cl, 1 + j * 3 + 1, none⟩ (.pointer (some ⟨m + 1, 0, none⟩))).setCell ⟨cl, 1 + j * 3 + 2, none⟩ (.pointer none)).heap[b]? = w.heap[b]? := fun b hb => by
    rw [heap_setCell_other _ _ _ _ hb, heap_setCell_other _ _ _ _ hb, heap_setCell_other _ _ _ _ hb]
  refine ⟨⟨_, s3, by simp [h2], fun i hi => ?_⟩, fun i hi => ?_, fun i i' hi hi' he => ?_, h.cl, ((h.below.setCell h.cl _).setCell h.cl _).setCell h.cl _⟩
  · unfold setV
    by_cases e : i = j
    · subst e
      rw [if_pos rfl]
      constructor
      · rw [Array.getElem?_setIfInBounds_ne (by omega), Array.getElem?_setIfInBounds_self_of_lt (by simp; omega)]
      · rw [Array.getElem?_setIfInBounds_self_of_lt (by simp; omega)]
    · obtain ⟨h4, h5⟩ := h3 i (by omega)
      rw [if_neg e]
      constructor
      · rw [Array.getElem?_setIfInBounds_ne (by omega), Array.getElem?_setIfInBounds_ne (by omega), Array.getElem?_setIfInBounds_ne (by omega), h4]
      · rw [Array.getElem?_setIfInBounds_ne (by omega), Array.getElem?_setIfInBounds_ne (by omega), Array.getElem?_setIfInBounds_ne (by omega), h5]
  · unfold setV
    by_cases e : i = j
    · rw [if_pos e, if_pos e]
      exact ⟨(ho _ (by omega)).trans hd, (ho _ (by omega)).trans hm, by omega, hcl⟩
    · rw [if_neg e, if_neg e]
      obtain ⟨h4, h5, h6, h7⟩ := h.d i (by omega)
      exact ⟨(ho _ (by omega)).trans h4, (ho _ (by omega)).trans h5, h6, h7⟩
  · unfold setV at he
    by_cases e1 : i = j
    · by_cases e2 : i' = j
      · omega
      · rw [if_pos e1, if_neg e2] at he
        have := hlt i' (by omega)
        omega
    · by_cases e2 : i' = j
      · rw [if_neg e1, if_pos e2] at he
        have := hlt i (by omega)
        omega
      · rw [if_neg e1, if_neg e2] at he
        exact h.ne i i' (by omega) (by omega) he
def NewPost (w : World) (e : Ending) (w' : World) : Prop := ∃ cl db mb, e = .returned (.tuple #[.pointer (some ⟨cl, 0, none⟩), .int .i64 0]) ∧ NewAt w w' cl 4 db mb
set_option maxRecDepth 100000 in
theorem new_no (h : Int) (hh : h < 2 ∨ 4 < h) (hh2 : -9223372036854775808 ≤ h ∧ h ≤ 9223372036854775807) : Calls Tryz.prog 17 #[.int .i64 h] w fun e w' => e = .returned (.tuple #[.pointer none, .int .i64 1]) ∧ w' = w := by
  rcases Int.lt_or_le h 2 with h2 | h2
  · have g1 : decide (h < 2) = true := by simp; omega
    go_enter Tryz.func17, Tryz.ntmps17
    go_wp2
    go_ret2
    exact ⟨rfl, rfl⟩
  · have g1 : decide (h < 2) = false := by simp; omega
    have g2 : decide (4 < h) = true := by simp; omega
    go_enter Tryz.func17, Tryz.ntmps17
    go_wp2
    go_ret2
    exact ⟨rfl, rfl⟩
set_option maxRecDepth 100000 in
set_option maxHeartbeats 1000000 in
theorem new_yes (h : Nat) (h2 : 2 ≤ h) (h4 : h ≤ 4) : Calls Tryz.prog 17 #[.int .i64 h] w (NewPost w) := by
  have hmm := @run_makeMap Tryz.prog
  have g1 : decide ((h : Int) < 2) = false := by simp; omega
  have g2 : decide ((4 : Int) < h) = false := by simp; omega
  go_enter Tryz.func17, Tryz.ntmps17
  go_wp2
  go_loopw [16] (fun i wr => ∃ j : Nat, j ≤ 4 ∧ i = .int .i64 j ∧ Hid (∃ db mb, NewAt w wr (w.heap.size + 1) j db mb)) (fun i _ => 4 - (intOf i).toNat)
  case atStart =>
    refine ⟨0, by omega, rfl, Lib.hid ⟨fun _ => 0, fun _ => 0, ⟨_, heap_alloc_new' _ _ (by simp), ?_, fun i hi => by omega⟩, fun i hi => by omega, fun i _ hi => by omega, by omega, ((Below.refl _ _).alloc (Nat.le_refl _) _).alloc (by simp) _⟩⟩
    rfl
  case round =>
    obtain ⟨j, hj, rfl, HN⟩ := hrel
    by_cases hj4 : j < 4
    · obtain ⟨db, mb, hN⟩ := HN.out
      have hN1 := Lib.hid hN
      clear hN
      go_wp2
      go_region_with (first | (go_at_call 39; refine new_data.mono ?_; rintro e w2 ⟨rfl, h2⟩; have H2 := Lib.hid (hN1.out.made h2); obtain ⟨⟨v0, c0⟩, f0⟩ := H2.out.1.cells (k := 1 + j * 3) (by omega); obtain ⟨⟨v1, c1⟩, f1⟩ := H2.out.1.cells (k := 1 + j * 3 + 1) (by omega); obtain ⟨⟨v2, c2⟩, f2⟩ := H2.out.1.cells (k := 1 + j * 3 + 2) (by omega); clear h2))
      all_goals
        go_wp2
        go_roundw
        case rel => exact ⟨j + 1, by omega, rfl, Lib.hid ⟨_, _, H2.out.1.stored hj4 H2.out.2.1 H2.out.2.2.1 H2.out.2.2.2.1 H2.out.2.2.2.2.1 rfl⟩⟩
        case measure => simp [intOf]; omega
    · obtain rfl : j = 4 := by omega
      obtain ⟨db, mb, hN⟩ := HN.out
      have hN1 := Lib.hid hN
      clear hN
      go_wp2
      go_ret2
      exact ⟨_, _, _, rfl, hN1.out⟩
end
end Go.Proofs.YtkpekiajdlolnabGreat

/-
  THE LAW's WORLD: clusters on both sides.
-/
namespace Go.Proofs.YtkpekiajdlolnabGreat
open Go.RowKit Go.Maps

/-- a cluster on both sides: L: the program's shards, M: the document's. -/
structure Cst where
  cl : Nat
  db : Nat → Nat
  mb : Nat → Nat
  ml : Nat
  sb : Nat
  L : Nat → KV
  M : Nat → KV
structure CstAt (n0 : Nat) (w : World) (c : Cst) : Prop where
  clu : Clu w c.cl c.db c.mb c.L
  mdl : ∃ lv, Mdl w c.ml c.sb lv c.M
  len : ∀ i, i < 4 → (c.M i).length ≤ 12
  ris : ∀ i, i < 4 → Rising (c.L i) ∧ Rising (c.M i)
  key : ∀ i, i < 4 → ∀ p ∈ c.L i, p.1.length ≤ 8
  tcl : ∃ cc, w.heap[c.cl]? = some (.cells cc 83 (0, 0))
  tdb : ∀ i, i < 4 → w.heap[c.db i]? = some (.cells #[.map (some (c.mb i))] 142 (0, 0))
  nmb : ∀ i, i < 4 → n0 ≤ c.mb i
  nsb : n0 ≤ c.sb
/-- two clusters write nothing of each other's. -/
def Apart (c d : Cst) : Prop := c.sb ≠ d.sb ∧ ∀ i j, i < 4 → j < 4 → c.mb i ≠ d.mb j
section
variable {n0 : Nat} {w w' : World} {c d : Cst}
/-- what happens to blocks that are none of a cluster's. -/
theorem CstAt.but {B : Nat → Prop} (h : CstAt n0 w c) (hb : But B w w') (hcl : ¬ B c.cl) (hdb : ∀ i, i < 4 → ¬ B (c.db i)) (hmb : ∀ i, i < 4 → ¬ B (c.mb i)) (hml : ¬ B c.ml) (hsb : ¬ B c.sb) (hrow : ∀ b cur, w.heap[b]? = some (.cells cur 74 (0, 0)) → ¬ B b) : CstAt n0 w' c := by
  obtain ⟨lv, hm⟩ := h.mdl
  have lt := fun i hi => (h.clu.p i hi).lt
  obtain ⟨l1, l2⟩ := hm.lts
  have kcl := hb.keep c.cl (lt 0 (by decide)).1 hcl
  have kdb := fun i (hi : i < 4) => hb.keep (c.db i) (lt i hi).2.1 (hdb i hi)
  have kmb := fun i (hi : i < 4) => hb.keep (c.mb i) (lt i hi).2.2 (hmb i hi)
  have kml := hb.keep c.ml l1 hml
  have ksb := hb.keep c.sb l2 hsb
  obtain ⟨cap, h1⟩ := hm.s
  obtain ⟨mc, h2⟩ := hm.t
  obtain ⟨cur, h3, h4⟩ := hm.b
  obtain ⟨cc, h5⟩ := h.tcl
  refine ⟨⟨fun i hi => (h.clu.p i hi).block fun b hb => by rcases hb with rfl | rfl | rfl; exact kcl; exact kdb i hi; exact kmb i hi, h.clu.ne, h.clu.len⟩, ⟨lv, ⟨cap, (World.cell?_of_block kml).trans h1⟩, ⟨mc, kml.trans h2⟩, ⟨cur, ksb.trans h3, h4⟩, fun i hi => (hm.r i hi).block fun g hg => ?_⟩, h.len, h.ris, h.key, ⟨cc, kcl.trans h5⟩, fun i hi => (kdb i hi).trans (h.tdb i hi), h.nmb, h.nsb⟩
  obtain ⟨cur', hc⟩ := (hm.r i hi).ty hg
  exact hb.keep g (Array.getElem?_eq_some_iff.1 hc).1 (hrow g cur' hc)
theorem CstAt.idle (h : CstAt n0 w c) (hb : But (fun _ => False) w w') : CstAt n0 w' c := h.but hb id (fun _ _ => id) (fun _ _ => id) id id fun _ _ _ => id
theorem CstAt.below (h : CstAt n0 w c) (hb : Below w.heap.size w w') : CstAt n0 w' c := h.but (B := fun _ => False) (.of_below hb) id (fun _ _ => id) (fun _ _ => id) id id fun _ _ _ => id
/-- a block of maps is none of cells. -/
theorem map_ne {m : Nat} {L : KV} {b : Nat} {cur : Array Value} {ty : TypeId} (hm : MapKV w m L) (hb : w.heap[b]? = some (.cells cur ty (0, 0))) : b ≠ m := fun e => by
  obtain ⟨es, ck, h, _⟩ := hm
  rw [e, h] at hb
  cases hb
/-- the program's side turns. -/
theorem CstAt.turn {X : Nat → KV} (h : CstAt n0 w c) (hb : But (fun b => ∃ i, i < 4 ∧ b = c.mb i) w w') (hc : Clu w' c.cl c.db c.mb X) (hr : ∀ i, i < 4 → Rising (X i)) (hk : ∀ i, i < 4 → ∀ p ∈ X i, p.1.length ≤ 8) : CstAt n0 w' { c with L := X } := by
  obtain ⟨lv, hm⟩ := h.mdl
  obtain ⟨l1, l2⟩ := hm.lts
  obtain ⟨cap, h1⟩ := hm.s
  obtain ⟨mc, h2⟩ := hm.t
  obtain ⟨cur, h3, h4⟩ := hm.b
  obtain ⟨cc, h5⟩ := h.tcl
  have no : ∀ (b : Nat) (cur : Array Value) (ty : TypeId), w.heap[b]? = some (Obj.cells cur ty (0, 0)) → w'.heap[b]? = w.heap[b]? := fun b cur ty hbb => hb.keep b (Array.getElem?_eq_some_iff.1 hbb).1 fun ⟨i, hi, e⟩ => map_ne (h.clu.p i hi).l hbb e
  have kml := no _ _ _ h2
  refine ⟨hc, ⟨lv, ⟨cap, (World.cell?_of_block kml).trans h1⟩, ⟨mc, kml.trans h2⟩, ⟨cur, (no _ _ _ h3).trans h3, h4⟩, fun i hi => (hm.r i hi).block fun g hg => ?_⟩, h.len, fun i hi => ⟨hr i hi, (h.ris i hi).2⟩, hk, ⟨cc, (no _ _ _ h5).trans h5⟩, fun i hi => (no _ _ _ (h.tdb i hi)).trans (h.tdb i hi), h.nmb, h.nsb⟩
  obtain ⟨cur', hc⟩ := (hm.r i hi).ty hg
  exact no _ _ _ hc
/-- .. and the other cluster stands. -/
theorem CstAt.turned (h : CstAt n0 w c) (hd : CstAt n0 w d) (ha : Apart c d) (hb : But (fun b => ∃ i, i < 4 ∧ b = c.mb i) w w') : CstAt n0 w' d := by
  obtain ⟨lv, hm⟩ := hd.mdl
  obtain ⟨mc, h2⟩ := hm.t
  obtain ⟨cur, h3, h4⟩ := hm.b
  obtain ⟨cc, h5⟩ := hd.tcl
  have no : ∀ (b : Nat) (cur : Array Value) (ty : TypeId), w.heap[b]? = some (Obj.cells cur ty (0, 0)) → ¬ ∃ i, i < 4 ∧ b = c.mb i := fun b cur ty hbb ⟨i, hi, e⟩ => map_ne (h.clu.p i hi).l hbb e
  exact hd.but hb (no _ _ _ h5) (fun i hi => no _ _ _ (hd.tdb i hi)) (fun i hi ⟨j, hj, e⟩ => ha.2 j i hj hi e.symm) (no _ _ _ h2) (no _ _ _ h3) fun b cur hbb => no _ _ _ hbb
/-- the document's side turns. -/
theorem CstAt.turnM {X : Nat → KV} (h : CstAt n0 w c) (hb : But (· = c.sb) w w') (hm' : ∃ lv, Mdl w' c.ml c.sb lv X) (hl : ∀ i, i < 4 → (X i).length ≤ 12) (hr : ∀ i, i < 4 → Rising (X i)) : CstAt n0 w' { c with M := X } := by
  obtain ⟨lv, hm⟩ := h.mdl
  obtain ⟨cur, h3, h4⟩ := hm.b
  obtain ⟨cc, h5⟩ := h.tcl
  have lt := fun i hi => (h.clu.p i hi).lt
  have ncl : c.cl ≠ c.sb := fun e => by rw [e, h3] at h5; cases h5
  have ndb : ∀ i, i < 4 → c.db i ≠ c.sb := fun i hi e => by have := h.tdb i hi; rw [e, h3] at this; cases this
  have nmb : ∀ i, i < 4 → c.mb i ≠ c.sb := fun i hi e => map_ne (h.clu.p i hi).l h3 e.symm
  have kcl := hb.keep c.cl (lt 0 (by decide)).1 ncl
  have kdb := fun i (hi : i < 4) => hb.keep (c.db i) (lt i hi).2.1 (ndb i hi)
  have kmb := fun i (hi : i < 4) => hb.keep (c.mb i) (lt i hi).2.2 (nmb i hi)
  exact ⟨⟨fun i hi => (h.clu.p i hi).block fun b hb => by rcases hb with rfl | rfl | rfl; exact kcl; exact kdb i hi; exact kmb i hi, h.clu.ne, h.clu.len⟩, hm', hl, fun i hi => ⟨(h.ris i hi).1, hr i hi⟩, h.key, ⟨cc, kcl.trans h5⟩, fun i hi => (kdb i hi).trans (h.tdb i hi), h.nmb, h.nsb⟩
theorem CstAt.turnedM (h : CstAt n0 w c) (hd : CstAt n0 w d) (ha : Apart c d) (hb : But (· = c.sb) w w') : CstAt n0 w' d := by
  obtain ⟨lv, hm⟩ := h.mdl
  obtain ⟨cur, h3, _⟩ := hm.b
  obtain ⟨lv', hm'⟩ := hd.mdl
  obtain ⟨mc, h2⟩ := hm'.t
  obtain ⟨cc, h5⟩ := hd.tcl
  exact hd.but hb (fun e => by rw [e, h3] at h5; cases h5) (fun i hi e => by have := hd.tdb i hi; rw [e, h3] at this; cases this) (fun i hi e => map_ne (hd.clu.p i hi).l h3 e.symm) (fun e => by rw [e, h3] at h2; cases h2) (fun e => ha.1 e.symm) fun b cur' hbb e => by rw [e, h3] at hbb; cases hbb
/-- the cells of the law's list of clusters. -/
def prow (cs : List Cst) : List Value := cs.flatMap fun c => [.pointer (some ⟨c.cl, 0, none⟩), .pointer (some ⟨c.ml, 0, none⟩)]
theorem prow_append (a b : List Cst) : prow (a ++ b) = prow a ++ prow b := List.flatMap_append
theorem prow_get : ∀ (cs : List Cst) (k : Nat) (c : Cst), cs[k]? = some c → (prow cs)[k * 2]? = some (.pointer (some ⟨c.cl, 0, none⟩)) ∧ (prow cs)[k * 2 + 1]? = some (.pointer (some ⟨c.ml, 0, none⟩))
  | [], k, p, h => by simp at h
  | q :: L, 0, p, h => by simp at h; subst h; exact ⟨rfl, rfl⟩
  | q :: L, k + 1, p, h => by
    show ((.pointer (some ⟨q.cl, 0, none⟩) : Value) :: .pointer (some ⟨q.ml, 0, none⟩) :: prow L)[(k + 1) * 2]? = _ ∧ ((.pointer (some ⟨q.cl, 0, none⟩) : Value) :: .pointer (some ⟨q.ml, 0, none⟩) :: prow L)[(k + 1) * 2 + 1]? = _
    rw [show (k + 1) * 2 = k * 2 + 1 + 1 by omega]
    simpa using prow_get L k p (by simpa using h)
theorem prow_turn (cs : List Cst) (k : Nat) (c d : Cst) (h : cs[k]? = some c) (e1 : d.cl = c.cl) (e2 : d.ml = c.ml) : prow (cs.set k d) = prow cs := by
  induction cs generalizing k with
  | nil => rfl
  | cons q L ih =>
    cases k with
    | zero => simp at h; subst h; simp [prow, e1, e2]
    | succ k => simp only [List.set_cons_succ]; show _ :: _ :: prow (L.set k d) = _ :: _ :: prow L; rw [ih k (by simpa using h)]
/-- the law's world. -/
structure LawAt (n0 : Nat) (w : World) (W : Nat) (n : Nat) (cs : List Cst) : Prop where
  lo : n0 ≤ W
  b : ∃ CS S, LsAt n0 w W CS S n ∧ w.ownsRow n0 56 2 CS cs.length (prow cs)
  each : ∀ c ∈ cs, CstAt n0 w c
  apart : cs.Pairwise Apart
theorem Apart.symm {c d : Cst} (h : Apart c d) : Apart d c := ⟨fun e => h.1 e.symm, fun i j hi hj e => h.2 j i hj hi e.symm⟩
theorem LawAt.two {W n : Nat} {cs : List Cst} (h : LawAt n0 w W n cs) {i j : Nat} {c d : Cst} (hc : cs[i]? = some c) (hd : cs[j]? = some d) (hij : i ≠ j) : Apart c d := by
  obtain ⟨hi, rfl⟩ := List.getElem?_eq_some_iff.1 hc
  obtain ⟨hj, rfl⟩ := List.getElem?_eq_some_iff.1 hd
  rcases Nat.lt_or_ge i j with h1 | h1
  · exact List.pairwise_iff_getElem.1 h.apart i j hi hj h1
  · exact (List.pairwise_iff_getElem.1 h.apart j i hj hi (by omega)).symm
/-- one cluster turns, the others and the law's own blocks stand. -/
theorem LawAt.turn {W n k : Nat} {cs : List Cst} {c d : Cst} {B : Nat → Prop} (h : LawAt n0 w W n cs) (hk : cs[k]? = some c) (hb : But B w w') (hd : CstAt n0 w' d) (e1 : d.cl = c.cl) (e2 : d.ml = c.ml) (e3 : d.sb = c.sb) (e4 : d.mb = c.mb)
    (hoth : ∀ x, CstAt n0 w x → Apart c x → CstAt n0 w' x) (hty : ∀ (b : Nat) (cur : Array Value) (ty : TypeId), w.heap[b]? = some (Obj.cells cur ty (0, 0)) → ty ≠ 104 → ¬ B b) : LawAt n0 w' W n (cs.set k d) := by
  obtain ⟨CS, S, h5, h4⟩ := h.b
  obtain ⟨cur, h1, _⟩ := h5.b
  obtain ⟨xs, h6⟩ := h5.row
  have hsz : ∀ (b : Nat) (cur : Array Value) (ty : TypeId), w.heap[b]? = some (Obj.cells cur ty (0, 0)) → ty ≠ 104 → w'.heap[b]? = w.heap[b]? := fun b cur ty hbb hne => hb.keep b (Array.getElem?_eq_some_iff.1 hbb).1 (hty b cur ty hbb hne)
  have hrow : ∀ {v : Value} {m size : Nat} {ty : TypeId} {ys : List Value}, w.ownsRow n0 ty size v m ys → ty ≠ 104 → w'.ownsRow n0 ty size v m ys := fun {v m size ty ys} hr hne => ownsRow_block hr fun g hg => by
    obtain ⟨c, hc⟩ := row_ty hr hg
    exact hsz g c ty hc hne
  refine ⟨h.lo, ⟨CS, S, h5.block (hsz W _ _ h1 (by decide)) (fun g hg => ?_) (fun g hg => ?_), ?_⟩, fun x hx => ?_, ?_⟩
  · obtain ⟨c, hc⟩ := row_ty h6 hg
    exact hsz g c _ hc (by decide)
  · obtain ⟨c, hc⟩ := h5.held_ty hg
    exact hsz g c _ hc (by decide)
  · rw [prow_turn cs k c d hk e1 e2, List.length_set]
    exact hrow h4 (by decide)
  · obtain ⟨j, hj⟩ := List.mem_iff_getElem?.1 hx
    by_cases e : j = k
    · subst e
      rw [List.getElem?_set_self (List.getElem?_eq_some_iff.1 hk).1] at hj
      cases hj
      exact hd
    · rw [List.getElem?_set_ne (fun x => e x.symm)] at hj
      exact hoth x (h.each x (List.mem_of_getElem? hj)) (h.two hk hj fun x => e x.symm)
  · have key : ∀ x, Apart c x → Apart d x := fun x ha => ⟨by rw [e3]; exact ha.1, by rw [e4]; exact ha.2⟩
    rw [List.pairwise_iff_getElem]
    intro i j hi hj hij
    simp only [List.length_set] at hi hj
    have hkl := (List.getElem?_eq_some_iff.1 hk).1
    have ha := List.pairwise_iff_getElem.1 h.apart i j hi hj hij
    rw [List.getElem_set, List.getElem_set]
    have hck : cs[k] = c := (List.getElem?_eq_some_iff.1 hk).2
    split
    · rename_i e
      subst e
      rw [if_neg (by omega)]
      rw [hck] at ha
      exact key _ ha
    · split
      · rename_i e1 e
        subst e
        rw [hck] at ha
        exact (key _ ha.symm).symm
      · exact ha
end
end Go.Proofs.YtkpekiajdlolnabGreat

/-
  THE LAW's WORLD, second text: what the calls do to it.
-/
namespace Go.Proofs.YtkpekiajdlolnabGreat
open Go.RowKit Go.Maps

theorem keyB_len {k : Bs} (h : keyB k = true) : k.length ≤ 8 := by
  simp only [keyB, Bool.and_eq_true, decide_eq_true_eq] at h
  exact h.2.1
theorem chL_ris {L : KV} {k v : Bs} {g : Bool} (h : Rising L) : Rising (chL L k v g) := by
  unfold chL
  split
  · split
    · exact rising_del h k
    · exact rising_put h k v
  · exact h
theorem chL_key {L : KV} {k v : Bs} {g : Bool} (h : ∀ p ∈ L, p.1.length ≤ 8) (hk : keyB k = true) : ∀ p ∈ chL L k v g, p.1.length ≤ 8 := by
  unfold chL
  intro p hp
  split at hp
  · split at hp
    · exact h p (mem_del hp)
    · rcases mem_put hp with rfl | hp
      · exact keyB_len hk
      · exact h p hp
  · exact h p hp
theorem chState_ris {L : Nat → KV} {k v : Bs} {g : Bool} (h : ∀ i, i < 4 → Rising (L i)) : ∀ i, i < 4 → Rising (chState L k v g i) := fun i hi => by
  unfold chState
  split
  · unfold setKV
    split
    · exact chL_ris (h _ (shardOf_lt k))
    · exact h i hi
  · exact h i hi
theorem chState_key {L : Nat → KV} {k v : Bs} {g : Bool} (h : ∀ i, i < 4 → ∀ p ∈ L i, p.1.length ≤ 8) : ∀ i, i < 4 → ∀ p ∈ chState L k v g i, p.1.length ≤ 8 := fun i hi => by
  unfold chState
  split
  · rename_i hk
    unfold setKV
    split
    · exact chL_key (h _ (shardOf_lt k)) hk
    · exact h i hi
  · exact h i hi
theorem chState_len {L : Nat → KV} {k v : Bs} {g : Bool} (h : ∀ i, i < 4 → (L i).length ≤ 12) : ∀ i, i < 4 → (chState L k v g i).length ≤ 12 := fun i hi => by
  unfold chState
  split
  · unfold setKV
    split
    · exact chL_len (h _ (shardOf_lt k))
    · exact h i hi
  · exact h i hi
section
variable {n0 : Nat} {w w' : World} {W n k : Nat} {cs : List Cst} {c : Cst}
theorem LawAt.idle (h : LawAt n0 w W n cs) (hb : But (fun _ => False) w w') : LawAt n0 w' W n cs := by
  obtain ⟨CS, S, h5, h4⟩ := h.b
  obtain ⟨cur, h1, _⟩ := h5.b
  obtain ⟨xs, h6⟩ := h5.row
  exact ⟨h.lo, ⟨CS, S, h5.block (hb.keep W (Array.getElem?_eq_some_iff.1 h1).1 id) (fun g hg => hb.keep g (h6.lt g hg).2 id) (fun g hg => let ⟨_, hz⟩ := h5.held_ty hg; hb.keep g (Array.getElem?_eq_some_iff.1 hz).1 id), ownsRow_block h4 fun g hg => hb.keep g (h4.lt g hg).2 id⟩, fun c hc => (h.each c hc).idle hb, h.apart⟩
theorem LawAt.below (h : LawAt n0 w W n cs) (hb : Below w.heap.size w w') : LawAt n0 w' W n cs := by
  obtain ⟨CS, S, h5, h4⟩ := h.b
  obtain ⟨cur, h1, _⟩ := h5.b
  obtain ⟨xs, h6⟩ := h5.row
  exact ⟨h.lo, ⟨CS, S, h5.block (hb.block W (Array.getElem?_eq_some_iff.1 h1).1) (fun g hg => hb.block g (h6.lt g hg).2) (fun g hg => let ⟨_, hz⟩ := h5.held_ty hg; hb.block g (Array.getElem?_eq_some_iff.1 hz).1), ownsRow_block h4 fun g hg => hb.block g (h4.lt g hg).2⟩, fun c hc => (h.each c hc).below hb, h.apart⟩
/-- the program has changed a cluster. -/
theorem LawAt.put {X : Nat → KV} (h : LawAt n0 w W n cs) (hk : cs[k]? = some c) (hb : But (fun b => ∃ i, i < 4 ∧ b = c.mb i) w w') (hc : Clu w' c.cl c.db c.mb X) (hr : ∀ i, i < 4 → Rising (X i)) (hy : ∀ i, i < 4 → ∀ p ∈ X i, p.1.length ≤ 8) : LawAt n0 w' W n (cs.set k { c with L := X }) := by
  have hcc := h.each c (List.mem_of_getElem? hk)
  exact h.turn hk hb (hcc.turn hb hc hr hy) rfl rfl rfl rfl (fun x hx ha => hcc.turned hx ha hb) fun b cur ty hbb _ ⟨i, hi, e⟩ => map_ne (hcc.clu.p i hi).l hbb e
/-- the document has. -/
theorem LawAt.change {X : Nat → KV} (h : LawAt n0 w W n cs) (hk : cs[k]? = some c) (hb : But (· = c.sb) w w') (hm : ∃ lv, Mdl w' c.ml c.sb lv X) (hl : ∀ i, i < 4 → (X i).length ≤ 12) (hr : ∀ i, i < 4 → Rising (X i)) : LawAt n0 w' W n (cs.set k { c with M := X }) := by
  have hcc := h.each c (List.mem_of_getElem? hk)
  obtain ⟨lv, hmm⟩ := hcc.mdl
  obtain ⟨cur, h3, _⟩ := hmm.b
  exact h.turn hk hb (hcc.turnM hb hm hl hr) rfl rfl rfl rfl (fun x hx ha => hcc.turnedM hx ha hb) fun b cur' ty hbb hne e => by
    rw [e, h3] at hbb
    have e2 : Obj.cells cur 104 (0, 0) = Obj.cells cur' ty (0, 0) := Option.some.inj hbb
    injection e2 with _ e3
    exact hne e3.symm
/-- both sides have the same. -/
def Even (c : Cst) : Prop := c.L = c.M
/-- the two calls of a Put or a Delete. -/
theorem put_law (h : LawAt n0 w W n cs) (hk : cs[k]? = some c) {x y : ByteArray} {g : Bool} {e : Ending} {w' : World} (hp : CluPost w c.cl c.db c.mb (chState c.L x.data.toList y.data.toList g) (chAll c.L x.data.toList y.data.toList g) e w') :
    e = .returned (.int .i64 (chAll c.L x.data.toList y.data.toList g)) ∧ LawAt n0 w' W n (cs.set k { c with L := chState c.L x.data.toList y.data.toList g }) ∧ But (fun b => ∃ i, i < 4 ∧ b = c.mb i) w w' :=
  have hcc := h.each c (List.mem_of_getElem? hk)
  ⟨hp.1, h.put hk hp.2.2 hp.2.1 (chState_ris fun i hi => (hcc.ris i hi).1) (chState_key hcc.key), hp.2.2⟩
theorem change_law (h : LawAt n0 w W n cs) (hk : cs[k]? = some c) (x y : ByteArray) (g : Bool) :
    Calls Tryz.prog 24 #[.pointer (some ⟨c.ml, 0, none⟩), .agg #[.string x, .string y, .bool g]] w fun e w' => e = .returned (.int .i64 (chAll c.M x.data.toList y.data.toList g)) ∧ LawAt n0 w' W n (cs.set k { c with M := chState c.M x.data.toList y.data.toList g }) ∧ But (· = c.sb) w w' := by
  have hcc := h.each c (List.mem_of_getElem? hk)
  obtain ⟨lv, hm⟩ := hcc.mdl
  refine (rchange_c x y g hcc.len (fun i hi => (hcc.ris i hi).2) hm).mono fun e w' ⟨h1, h2, h3⟩ => ⟨h1, ?_, h3⟩
  exact h.change hk h3 h2 (chState_len hcc.len) (chState_ris fun i hi => (hcc.ris i hi).2)
/-- a list has been handed out and written. -/
theorem LawAt.mined {l : Value} {base m : Nat} {xs : List Value} {CS S : Value} (h : LawAt n0 w W n cs) (hS : LsAt n0 w W CS S n) (hCS : w.ownsRow n0 56 2 CS cs.length (prow cs)) (hb : But (MineB W S l) w w') (hl : w.ownsRow base 74 2 l m xs)
    (hfresh : ∀ c ∈ cs, ∀ lv, Mdl w c.ml c.sb lv c.M → ∀ i, i < 4 → ∀ g, (lv i).ownBlock = some g → l.ownBlock ≠ some g)
    (hS' : ∃ S', LsAt n0 w' W CS S' (n + 1)) : LawAt n0 w' W (n + 1) cs := by
  obtain ⟨cur, h1, _⟩ := hS.b
  obtain ⟨ys, hy⟩ := hS.row
  have ncs : w'.ownsRow n0 56 2 CS cs.length (prow cs) := ownsRow_block hCS fun g hg => by
    obtain ⟨cp, hcp⟩ := row_ty hCS hg
    refine hb.keep g (Array.getElem?_eq_some_iff.1 hcp).1 ?_
    rintro (e | e | e)
    · rw [e, h1] at hcp; cases hcp
    · obtain ⟨c', hc'⟩ := row_ty hy e; rw [hcp] at hc'; cases hc'
    · obtain ⟨c', hc'⟩ := row_ty hl e; rw [hcp] at hc'; cases hc'
  obtain ⟨S', hS'⟩ := hS'
  refine ⟨h.lo, ⟨CS, S', hS', ncs⟩, fun c hc => ?_, h.apart⟩
  have hcc := h.each c hc
  obtain ⟨lv, hm⟩ := hcc.mdl
  obtain ⟨l1, l2⟩ := hm.lts
  obtain ⟨cap, k1⟩ := hm.s
  obtain ⟨mc, k2⟩ := hm.t
  obtain ⟨cur', k3, k4⟩ := hm.b
  obtain ⟨cc, k5⟩ := hcc.tcl
  have no : ∀ (b : Nat) (cur : Array Value) (ty : TypeId), w.heap[b]? = some (Obj.cells cur ty (0, 0)) → ty ≠ 74 → ty ≠ 47 → ty ≠ 36 → w'.heap[b]? = w.heap[b]? := fun b cur ty hbb n1 n2 n3 => by
    refine hb.keep b (Array.getElem?_eq_some_iff.1 hbb).1 ?_
    rintro (e | e | e)
    · rw [e, h1] at hbb
      have e2 := Option.some.inj hbb
      injection e2 with _ e3
      exact n3 e3.symm
    · obtain ⟨c', hc'⟩ := row_ty hy e
      rw [hc'] at hbb
      have e2 := Option.some.inj hbb
      injection e2 with _ e3
      exact n2 e3.symm
    · obtain ⟨c', hc'⟩ := row_ty hl e
      rw [hc'] at hbb
      have e2 := Option.some.inj hbb
      injection e2 with _ e3
      exact n1 e3.symm
  have nm : ∀ i, i < 4 → w'.heap[c.mb i]? = w.heap[c.mb i]? := fun i hi => by
    refine hb.keep _ (hcc.clu.p i hi).l.lt ?_
    rintro (e | e | e)
    · exact map_ne (hcc.clu.p i hi).l h1 e.symm
    · obtain ⟨c', hc'⟩ := row_ty hy e; exact map_ne (hcc.clu.p i hi).l hc' rfl
    · obtain ⟨c', hc'⟩ := row_ty hl e; exact map_ne (hcc.clu.p i hi).l hc' rfl
  have kcl := no _ _ _ k5 (by decide) (by decide) (by decide)
  have kml := no _ _ _ k2 (by decide) (by decide) (by decide)
  refine ⟨⟨fun i hi => (hcc.clu.p i hi).block fun b hbb => ?_, hcc.clu.ne, hcc.clu.len⟩, ⟨lv, ⟨cap, (World.cell?_of_block kml).trans k1⟩, ⟨mc, kml.trans k2⟩, ⟨cur', (no _ _ _ k3 (by decide) (by decide) (by decide)).trans k3, k4⟩, fun i hi => (hm.r i hi).block fun g hg => ?_⟩, hcc.len, hcc.ris, hcc.key, ⟨cc, kcl.trans k5⟩, fun i hi => (no _ _ _ (hcc.tdb i hi) (by decide) (by decide) (by decide)).trans (hcc.tdb i hi), hcc.nmb, hcc.nsb⟩
  · rcases hbb with rfl | rfl | rfl
    · exact kcl
    · exact no _ _ _ (hcc.tdb i hi) (by decide) (by decide) (by decide)
    · exact nm i hi
  · obtain ⟨c', hc'⟩ := (hm.r i hi).ty hg
    refine hb.keep g (Array.getElem?_eq_some_iff.1 hc').1 ?_
    rintro (e | e | e)
    · rw [e, h1] at hc'; cases hc'
    · obtain ⟨c2, hc2⟩ := row_ty hy e; rw [hc2] at hc'; cases hc'
    · exact hfresh c hc lv hm i hi g hg e
end
end Go.Proofs.YtkpekiajdlolnabGreat

/-
  THE LAW's WORLD, third text: a new cluster.
-/
namespace Go.Proofs.YtkpekiajdlolnabGreat
open Go.RowKit Go.Maps

section
variable {n0 : Nat} {w w1 w2 w' : World} {W n : Nat} {cs : List Cst} {c : Cst}
theorem NewAt.clu {cl : Nat} {db mb : Nat → Nat} (h : NewAt w w' cl 4 db mb) : Clu w' cl db mb (fun _ => []) := by
  obtain ⟨cur, h1, h2, h3⟩ := h.b
  refine ⟨fun i hi => ?_, fun i j hi hj e => h.ne i j hi hj e, fun i hi => by simp⟩
  obtain ⟨h4, h5⟩ := h3 i hi
  obtain ⟨h6, h7, _⟩ := h.d i hi
  exact ⟨by simp [World.cell?, h1, h4], by simp [World.cell?, h1, h5], by simp [World.cell?, h6], empty_kv h7⟩
theorem new_cst {cl : Nat} {db mb : Nat → Nat} {ml sb : Nat} {lv : Nat → Value} (h : NewAt w w1 cl 4 db mb) (hb : Below w1.heap.size w1 w2) (hm : Mdl w2 ml sb lv (fun _ => [])) (h0 : n0 ≤ w.heap.size) (hsb : n0 ≤ sb) : CstAt n0 w2 ⟨cl, db, mb, ml, sb, fun _ => [], fun _ => []⟩ := by
  obtain ⟨cur, h1, h2, h3⟩ := h.b
  have hlo := h.cl
  refine ⟨h.clu.below hb, ⟨lv, hm⟩, fun i hi => by simp, fun i hi => ⟨.nil, .nil⟩, fun i hi p hp => (by cases hp), ⟨cur, (hb.block _ (Array.getElem?_eq_some_iff.1 h1).1).trans h1⟩, fun i hi => ?_, fun i hi => ?_, hsb⟩
  · obtain ⟨h6, _⟩ := h.d i hi
    exact (hb.block _ (Array.getElem?_eq_some_iff.1 h6).1).trans h6
  · obtain ⟨_, _, _, h7⟩ := h.d i hi
    show n0 ≤ mb i
    omega
theorem CstAt.lts (h : CstAt n0 w c) : c.sb < w.heap.size ∧ ∀ i, i < 4 → c.mb i < w.heap.size :=
  ⟨let ⟨_, hm⟩ := h.mdl; hm.lts.2, fun i hi => (h.clu.p i hi).l.lt⟩
theorem new_apart {cl : Nat} {db mb : Nat → Nat} {ml sb : Nat} {d : Cst} (h : NewAt w w1 cl 4 db mb) (hd : CstAt n0 w d) (hsb : w.heap.size ≤ sb) : Apart d ⟨cl, db, mb, ml, sb, fun _ => [], fun _ => []⟩ := by
  obtain ⟨l1, l2⟩ := hd.lts
  refine ⟨fun e => ?_, fun i j hi hj e => ?_⟩
  · have e : d.sb = sb := e
    omega
  · have e : d.mb i = mb j := e
    obtain ⟨_, _, _, h7⟩ := h.d j hj
    have := h.cl
    have := l2 i hi
    omega
theorem pairTInfo : ∃ i, Tryz.prog.info? 56 = some i ∧ i.zero = some (.agg #[.pointer none, .pointer none]) ∧ i.size = 2 ∧ i.bytes = 16 := by
  have h : (Tryz.prog.info? 56).map (fun i => (i.zero, i.size, i.bytes)) = some (some (.agg #[.pointer none, .pointer none]), 2, 16) := by kernel_rfl
  obtain ⟨i, h1, h2⟩ := Option.map_eq_some_iff.1 h
  injection h2 with h2 h3
  injection h3 with h3 h4
  exact ⟨i, h1, h2, h3, h4⟩
/-- a cluster is added to the law's list. -/
theorem LawAt.add {w3 : World} {v3 CS : Value} {o : Obj} (h : LawAt n0 w W n cs) {S : Value} (h5 : LsAt n0 w W CS S n) (h4 : w.ownsRow n0 56 2 CS cs.length (prow cs))
    (hc : CstAt n0 w c) (hap : ∀ d ∈ cs, Apart d c) (hg : (w.alloc o).grownBy w3 CS.ownBlock)
    (hr : w3.ownsRow n0 56 2 v3 (cs.length + 1) (prow cs ++ [.pointer (some ⟨c.cl, 0, none⟩), .pointer (some ⟨c.ml, 0, none⟩)])) :
    w3.cell? ⟨W, 0, none⟩ = some CS ∧ w3.frozen? ⟨W, 0, none⟩ = false ∧ LawAt n0 (w3.setCell ⟨W, 0, none⟩ v3) W n (cs ++ [c]) ∧ But (fun b => n0 ≤ b) w (w3.setCell ⟨W, 0, none⟩ v3) := by
  obtain ⟨cur, h1, q2, h2, h3⟩ := h5.b
  obtain ⟨xs, h6⟩ := h5.row
  have hlt := (Array.getElem?_eq_some_iff.1 h1).1
  have hneW : some W ≠ CS.ownBlock := fun e => by
    obtain ⟨c, hc⟩ := row_ty h4 e.symm
    rw [h1] at hc; cases hc
  have hb3 : w3.heap[W]? = some (.cells cur 36 (0, 0)) := (hg.block W (by simp; omega) hneW).trans ((heap_alloc_old w o hlt).trans h1)
  have hbut : But (fun b => b = W ∨ CS.ownBlock = some b) w (w3.setCell ⟨W, 0, none⟩ v3) := But.setCell ⟨by have := hg.size; simp at this; omega, fun b hb hn => (hg.block b (by simp; omega) fun e => hn (.inr e.symm)).trans (heap_alloc_old w o hb), (by rw [hg.os]; rfl), (by rw [hg.output]; rfl)⟩ (.inl rfl) _ _
  have no : ∀ (b : Nat) (cur : Array Value) (ty : TypeId), w.heap[b]? = some (Obj.cells cur ty (0, 0)) → ty ≠ 56 → ty ≠ 36 → ¬ (b = W ∨ CS.ownBlock = some b) := fun b cur' ty hbb n1 n2 => by
    rintro (e | e)
    · rw [e, h1] at hbb
      have e2 := Option.some.inj hbb
      injection e2 with _ e3
      exact n2 e3.symm
    · obtain ⟨c', hc'⟩ := row_ty h4 e
      rw [hc'] at hbb
      have e2 := Option.some.inj hbb
      injection e2 with _ e3
      exact n1 e3.symm
  have keep : ∀ d, CstAt n0 w d → CstAt n0 (w3.setCell ⟨W, 0, none⟩ v3) d := fun d hd => by
    obtain ⟨lv, hm⟩ := hd.mdl
    obtain ⟨mc, k2⟩ := hm.t
    obtain ⟨cur', k3, _⟩ := hm.b
    obtain ⟨cc, k5⟩ := hd.tcl
    refine hd.but hbut (no _ _ _ k5 (by decide) (by decide)) (fun i hi => no _ _ _ (hd.tdb i hi) (by decide) (by decide)) (fun i hi => ?_) (no _ _ _ k2 (by decide) (by decide)) (no _ _ _ k3 (by decide) (by decide)) fun b cur hbb => no _ _ _ hbb (by decide) (by decide)
    rintro (e | e)
    · exact map_ne (hd.clu.p i hi).l h1 e.symm
    · obtain ⟨c', hc'⟩ := row_ty h4 e; exact map_ne (hd.clu.p i hi).l hc' rfl
  have rows : ∀ {v : Value} {m size : Nat} {ty : TypeId} {ys : List Value}, w.ownsRow n0 ty size v m ys → ty ≠ 56 → ty ≠ 36 → (w3.setCell ⟨W, 0, none⟩ v3).ownsRow n0 ty size v m ys := fun {v m size ty ys} hr n1 n2 => ownsRow_block hr fun g hgg => by
    obtain ⟨c, hc⟩ := row_ty hr hgg
    exact hbut.keep g (Array.getElem?_eq_some_iff.1 hc).1 (no g c ty hc n1 n2)
  have hn : ∀ b, (b = W ∨ CS.ownBlock = some b) → n0 ≤ b := fun b hb => hb.elim (fun e => e ▸ h.lo) fun e => (h4.lt b e).1
  refine ⟨by simp [World.cell?, hb3, h2], by simp [World.frozen?, hb3], ⟨h.lo, ⟨v3, S, ⟨⟨_, heap_setCell_same w3 W 0 cur _ _ hb3, by rw [Array.getElem?_setIfInBounds_ne (by omega), q2], by rw [Array.getElem?_setIfInBounds_self_of_lt ((Array.getElem?_eq_some_iff.1 h2).1)], by rw [Array.getElem?_setIfInBounds_ne (by omega), h3]⟩, ⟨xs, rows h6 (by decide) (by decide)⟩, fun k l hk => ?_⟩, ?_⟩, fun d hd => ?_, ?_⟩, ⟨hbut.size, fun b hb hnb => hbut.keep b hb fun x => hnb (hn b x), hbut.os, hbut.output⟩⟩
  · rw [heldOf_row (rows h6 (by decide) (by decide))] at hk
    obtain ⟨m, ys, z1, z2⟩ := h5.kept k l (by rw [heldOf_row h6]; exact hk)
    exact ⟨m, ys, ownsRow_block z1 fun g hgg => by
      obtain ⟨c, hc⟩ := row_ty z1 hgg
      exact hbut.keep g (Array.getElem?_eq_some_iff.1 hc).1 (no g c _ hc (by decide) (by decide)), z2⟩
  · rw [List.length_append, prow_append]
    refine ownsRow_setCell_other hr (fun e => ?_) _
    obtain ⟨c', hc'⟩ := row_ty hr e
    rw [show (⟨W, 0, none⟩ : Addr).block = W from rfl, hb3] at hc'
    cases hc'
  · rcases List.mem_append.1 hd with hd | hd
    · exact keep d (h.each d hd)
    · rw [List.mem_singleton] at hd; subst hd; exact keep d hc
  · rw [List.pairwise_append]
    exact ⟨h.apart, by simp, fun a ha b hb => by rw [List.mem_singleton] at hb; subst hb; exact hap a ha⟩
end
end Go.Proofs.YtkpekiajdlolnabGreat

/-
  A STEP OF THE LAW, first text: its frame's temporaries; its code's pieces; the opening.
-/
namespace Go.Proofs.YtkpekiajdlolnabGreat
open Go.RowKit Go.Maps

def SS (x : Nat → Value) : Array Value := #[x 0, x 1, x 2, x 3, x 4, x 5, x 6, x 7, x 8, x 9, x 10, x 11, x 12, x 13, x 14, x 15, x 16, x 17, x 18, x 19, x 20, x 21, x 22, x 23, x 24, x 25, x 26, x 27, x 28, x 29, x 30, x 31, x 32, x 33, x 34, x 35, x 36, x 37, x 38, x 39, x 40, x 41, x 42, x 43, x 44, x 45, x 46, x 47, x 48, x 49, x 50, x 51, x 52, x 53, x 54, x 55, x 56, x 57, x 58, x 59, x 60, x 61, x 62, x 63, x 64, x 65, x 66, x 67, x 68, x 69, x 70, x 71, x 72, x 73, x 74, x 75, x 76, x 77, x 78, x 79, x 80, x 81, x 82, x 83, x 84, x 85, x 86, x 87, x 88, x 89, x 90, x 91, x 92, x 93, x 94, x 95, x 96, x 97, x 98, x 99, x 100, x 101, x 102, x 103, x 104, x 105, x 106, x 107, x 108, x 109, x 110, x 111, x 112, x 113, x 114, x 115, x 116, x 117, x 118, x 119, x 120, x 121, x 122, x 123, x 124, x 125, x 126, x 127, x 128, x 129, x 130, x 131, x 132, x 133, x 134, x 135, x 136, x 137, x 138, x 139, x 140, x 141, x 142, x 143, x 144, x 145, x 146, x 147, x 148, x 149, x 150, x 151, x 152, x 153, x 154, x 155, x 156, x 157, x 158, x 159, x 160, x 161, x 162, x 163, x 164, x 165, x 166, x 167, x 168, x 169, x 170, x 171, x 172, x 173, x 174, x 175, x 176, x 177, x 178, x 179, x 180, x 181, x 182, x 183, x 184, x 185, x 186, x 187, x 188, x 189, x 190, x 191, x 192, x 193, x 194, x 195, x 196, x 197, x 198, x 199, x 200, x 201, x 202, x 203, x 204, x 205, x 206, x 207, x 208, x 209, x 210, x 211, x 212, x 213, x 214, x 215, x 216, x 217, x 218, x 219, x 220, x 221, x 222, x 223]
def upd (x : Nat → Value) (j : Nat) (v : Value) : Nat → Value := fun i => if i = j then v else x i
theorem upd_self {x : Nat → Value} {j : Nat} {v : Value} (h : x j = v) : ∃ y, x = upd y j v := ⟨x, by funext i; unfold upd; split <;> simp_all⟩
def hd1 : Code → Code
  | .seq a _ => a
  | c => c
def tl1 : Code → Code
  | .seq _ b => b
  | _ => .skip
noncomputable def tB : Code := (Tryz.f15.body).getD .skip
noncomputable def tO : Code := hd1 tB
noncomputable def tN : Code := hd1 (tl1 tB)
noncomputable def tEm : Code := hd1 (tl1 (tl1 tB))
noncomputable def tP : Code := hd1 (tl1 (tl1 (tl1 tB)))
noncomputable def tM : Code := tl1 (tl1 (tl1 (tl1 tB)))
/-- a step's fields. -/
structure OpV where
  k : Int
  a : Int
  b : Int
  c : Int
  d : Int
  e : Int
  f : Int
  s : ByteArray
  t : ByteArray
  u : ByteArray
def OpV.cells (o : OpV) : Array Value := #[.int .i64 o.k, .int .i64 o.a, .int .i64 o.b, .int .i64 o.c, .int .i64 o.d, .int .i64 o.e, .int .i64 o.f, .string o.s, .string o.t, .string o.u]
section
variable {x : Nat → Value} {w : World} {Q : Exit → Act → World → Prop} {o : OpV} {W ob : Nat}
set_option maxRecDepth 100000 in
theorem tO_wp (h1 : x 1 = .agg o.cells) (h : Q .normal ⟨SS (upd (upd x 3 (.pointer (some ⟨w.heap.size, 0, none⟩))) 4 (.bool false)), []⟩ (w.alloc (.cells o.cells 30))) : Code.wp Tryz.prog tO Q ⟨SS x, []⟩ w := by
  obtain ⟨x, rfl⟩ := upd_self h1
  clear h1
  unfold tO tB SS
  simp only [Tryz.f15, Option.getD, hd1, upd, Nat.reduceEqDiff, if_true, if_false]
  unfold OpV.cells at *
  go_wp2
  exact h
/-- where a step stands. -/
structure StepW (n0 : Nat) (w : World) (W n : Nat) (cs : List Cst) (ob : Nat) (o : OpV) : Prop where
  law : LawAt n0 w W n cs
  ev : ∀ c ∈ cs, Even c
  op : w.heap[ob]? = some (.cells o.cells 30 (0, 0))
/-- what a step comes to. -/
def StepPost (n0 : Nat) (w : World) (W n : Nat) (cs : List Cst) (w' : World) : Prop := ∃ n' cs', LawAt n0 w' W n' cs' ∧ (∀ c ∈ cs', Even c) ∧ n' ≤ n + 1 ∧ cs'.length ≤ cs.length + 1 ∧ But (fun b => n0 ≤ b) w w'
def RetT (R : World → Prop) : Exit → Act → World → Prop
  | .ret, a, w => a.tmps.getD 4 undef = .bool true ∧ a.defers = [] ∧ R w
  | _, _, _ => False
variable {n0 n : Nat} {cs : List Cst}
theorem LawAt.n0_le (h : LawAt n0 w W n cs) : n0 ≤ w.heap.size := by
  obtain ⟨CS, S, h5, _⟩ := h.b
  have := h5.cell.2.2
  have := h.lo
  omega
theorem LawAt.refl' (h : LawAt n0 w W n cs) (he : ∀ c ∈ cs, Even c) {w' : World} (hb : Below w.heap.size w w') : StepPost n0 w W n cs w' :=
  ⟨n, cs, h.below hb, he, by omega, by omega, ⟨hb.size, fun b hb' _ => hb.block b hb', hb.os, hb.output⟩⟩
set_option maxRecDepth 100000 in
theorem tN_other (hob : x 3 = .pointer (some ⟨ob, 0, none⟩)) (h : StepW n0 w W n cs ob o) (hk : o.k ≠ 1) (hq : Q .normal ⟨SS (upd (upd (upd x 19 (.pointer (some ⟨ob, 0, none⟩))) 20 (.int .i64 o.k)) 21 (.bool false)), []⟩ w) : Code.wp Tryz.prog tN Q ⟨SS x, []⟩ w := by
  have c0 : w.cell? ⟨ob, 0, none⟩ = some (.int .i64 o.k) := by simp [World.cell?, h.op, OpV.cells]
  have g1 : (o.k == 1) = false := by simpa using hk
  clear h hk
  obtain ⟨x, rfl⟩ := upd_self hob
  clear hob
  unfold tN tB SS
  simp only [Tryz.f15, Option.getD, hd1, tl1, upd, Nat.reduceEqDiff, if_true, if_false]
  go_wp2
  exact hq
set_option maxRecDepth 100000 in
theorem tN_no (hob : x 3 = .pointer (some ⟨ob, 0, none⟩)) (h : StepW n0 w W n cs ob o) (hk : o.k = 1) (hb : o.b < 2 ∨ 4 < o.b) (hb2 : -9223372036854775808 ≤ o.b ∧ o.b ≤ 9223372036854775807) : Code.wp Tryz.prog tN (RetT (StepPost n0 w W n cs)) ⟨SS x, []⟩ w := by
  have c0 : w.cell? ⟨ob, 0, none⟩ = some (.int .i64 1) := by simp [World.cell?, h.op, OpV.cells, hk]
  have c2 : w.cell? ⟨ob, 2, none⟩ = some (.int .i64 o.b) := by simp [World.cell?, h.op, OpV.cells]
  have H := Lib.hid h
  have HB := Lib.hid (And.intro hb hb2)
  clear h hk hb hb2
  obtain ⟨x, rfl⟩ := upd_self hob
  clear hob
  unfold tN tB SS
  simp only [Tryz.f15, Option.getD, hd1, tl1, upd, Nat.reduceEqDiff, if_true, if_false]
  go_wp2_with (first
    | (go_at_call 17; refine (new_no o.b HB.out.1 HB.out.2).mono ?_; rintro e w1 ⟨rfl, rfl⟩)
    | (go_at_call 22; refine (rnew_no o.b HB.out.1 HB.out.2).mono ?_; rintro e w1 ⟨rfl, rfl⟩))
  exact ⟨rfl, rfl, H.out.law.refl' H.out.ev (Below.refl _ _)⟩
end
end Go.Proofs.YtkpekiajdlolnabGreat

/-
  BLIND FRAMES, first text: temporaries as a function; operations that are silent; an operation that yields nothing.
-/
namespace Go.Proofs.YtkpekiajdlolnabGreat.Ph
open Go.Conc Go.ConcN Go.RowKit Go.Maps Go.Conc.Lib Go Go.Proofs.YtkpekiajdlolnabGreat Go.Proofs.YtkpekiajdlolnabGreat.Sim

def lay (n : Nat) (x : Nat → Value) : Array Value := ((List.range n).map x).toArray
section
variable {n j : Nat} {x : Nat → Value} {v : Value}
theorem lay_size (n : Nat) (x : Nat → Value) : (lay n x).size = n := by simp [lay]
theorem lay_get (h : j < n) : (lay n x)[j]? = some (x j) := by simp [lay, h]
theorem lay_getD (h : j < n) : (lay n x).getD j undef = x j := by
  rw [Array.getD_eq_getD_getElem?, lay_get h]; rfl
theorem lay_set : (lay n x).setIfInBounds j v = lay n (upd x j v) := by
  apply Array.ext
  · simp [lay]
  · intro i h1 h2
    simp only [lay, Array.size_setIfInBounds, List.size_toArray, List.length_map, List.length_range] at h1 h2
    rw [Array.getElem_setIfInBounds]
    · simp only [lay, upd, List.getElem_toArray, List.getElem_map, List.getElem_range]
      by_cases e : j = i
      · rw [if_pos e, if_pos e.symm]
      · rw [if_neg e, if_neg fun h => e h.symm]
    · simpa [lay] using h1
theorem lay_of {t : Array Value} (h : t.size = n) : lay n (fun i => t.getD i undef) = t := by
  apply Array.ext
  · simp [lay, h]
  · intro i h1 h2
    simp only [lay, List.getElem_toArray, List.getElem_map, List.getElem_range]
    rw [Array.getD_eq_getD_getElem?, Array.getElem?_eq_getElem h2]; rfl
abbrev evx (n : Nat) (x : Nat → Value) : Operand → Value := (Act.mk (lay n x) []).eval
theorem evx_tmp (h : j < n) : evx n x (.tmp j) = x j := lay_getD h
theorem evx_c : evx n x (.const v) = v := rfl
theorem tmp {n j : Nat} {x : Nat → Value} {v : Value} (h : j < n) (e : x j = v) : evx n x (.tmp j) = v := (evx_tmp h).trans e
end

/-- an operation that looks at nothing and yields v. -/
def Pure (e : Operand → Value) (o : Oper) (v : Value) : Prop := ∀ w, (execOp e o).run Tryz.prog w = .ok (.value v) w ∧ (execOp e o).events Tryz.prog w #[] = #[]
section
variable {e : Operand → Value} {o : Oper} {a b c : Operand} {v : Value} {m n : Int} {t u : Bool} {ty : TypeId}
theorem Pure.move (h : o.op = .move a) (hv : e a = v) : Pure e o v := fun w => by unfold execOp; constructor <;> simp [go_sem, h, hv]
theorem Pure.assign (h : o.op = .assign a) (hv : e a = v) : Pure e o v := fun w => by unfold execOp; constructor <;> simp [go_sem, h, hv]
theorem Pure.pick (h : o.op = .pick c a b) (hc : e c = .bool t) (hv : (if t then e a else e b) = v) : Pure e o v := fun w => by
  unfold execOp; subst hv; cases t <;> constructor <;> simp [go_sem, h, hc]
theorem Pure.pickT (h : o.op = .pick c a b) (hc : e c = .bool true) (hv : e a = v) : Pure e o v := Pure.pick h hc (by simpa using hv)
theorem Pure.pickF (h : o.op = .pick c a b) (hc : e c = .bool false) (hv : e b = v) : Pure e o v := Pure.pick h hc (by simpa using hv)
theorem Pure.lss (h : o.op = .binOp .lss 3 a b 3) (ha : e a = .int .i64 m) (hb : e b = .int .i64 n) (ht : decide (m < n) = t) : Pure e o (.bool t) := fun w => by
  unfold execOp; subst ht; constructor <;> simp [go_sem, h, ha, hb]
theorem Pure.gtr (h : o.op = .binOp .gtr 3 a b 3) (ha : e a = .int .i64 m) (hb : e b = .int .i64 n) (ht : decide (n < m) = t) : Pure e o (.bool t) := fun w => by
  unfold execOp; subst ht; constructor <;> simp [go_sem, h, ha, hb]
theorem Pure.leq (h : o.op = .binOp .leq 3 a b 3) (ha : e a = .int .i64 m) (hb : e b = .int .i64 n) (ht : decide (m ≤ n) = t) : Pure e o (.bool t) := fun w => by
  unfold execOp; subst ht; constructor <;> simp [go_sem, h, ha, hb]
theorem Pure.eql (h : o.op = .binOp .eql 3 a b 3) (ha : e a = .int .i64 m) (hb : e b = .int .i64 n) (ht : (m == n) = t) : Pure e o (.bool t) := fun w => by
  unfold execOp; subst ht; constructor <;> simp [go_sem, h, ha, hb]
theorem Pure.neq (h : o.op = .binOp .neq 3 a b 3) (ha : e a = .int .i64 m) (hb : e b = .int .i64 n) (ht : (m != n) = t) : Pure e o (.bool t) := fun w => by
  unfold execOp; subst ht; constructor <;> simp [go_sem, h, ha, hb]
theorem Pure.add (h : o.op = .binOp .add 3 a b 3) (ha : e a = .int .i64 m) (hb : e b = .int .i64 n) (h1 : -9223372036854775808 ≤ m + n) (h2 : m + n ≤ 9223372036854775807) : Pure e o (.int .i64 (m + n)) := fun w => by
  have hw : IntKind.i64.wrap (m + n) = m + n := by rw [IntKind.wrap_i64]; omega
  unfold execOp; constructor <;> simp [go_sem, h, ha, hb, hw]
theorem Pure.not (h : o.op = .unOp .not 4 a) (ha : e a = .bool t) (ht : (!t) = u) : Pure e o (.bool u) := fun w => by
  unfold execOp; subst ht; constructor <;> simp [go_sem, h, ha]
end
end Go.Proofs.YtkpekiajdlolnabGreat.Ph

/-
  BLIND FRAMES, second text: the rules.
-/
namespace Go.Proofs.YtkpekiajdlolnabGreat.Ph
open Go.Conc Go.ConcN Go.RowKit Go.Maps Go.Conc.Lib Go Go.Proofs.YtkpekiajdlolnabGreat Go.Proofs.YtkpekiajdlolnabGreat.Sim

/-- operands that are kept. -/
def ek (l : List (Nat × Value)) : Operand → Value
  | .tmp j => (l.lookup j).getD undef
  | .const v => v
  | _ => undef
theorem ek_mem : ∀ (l : List (Nat × Value)) (j : Nat), (l.lookup j).getD undef = undef ∨ ∃ p ∈ l, (l.lookup j).getD undef = p.2
  | [], j => .inl rfl
  | p :: l, j => by
    obtain ⟨a, v⟩ := p
    rw [List.lookup_cons]
    by_cases e : j == a
    · rw [e]; exact .inr ⟨_, .head _, rfl⟩
    · simp only [Bool.not_eq_true] at e
      rw [e]
      rcases ek_mem l j with h | ⟨p, h1, h2⟩
      · exact .inl h
      · exact .inr ⟨p, .tail _ h1, h2⟩
theorem ek_ok {ρ : Rel} {l : List (Nat × Value)} (h : ∀ p ∈ l, VR XG.F ρ p.2 p.2) : EvR XG.F fb ρ (ek l) (ek l) := by
  refine ⟨fun x hx => ?_, fun _ => rfl⟩
  cases x with
  | tmp j =>
    rcases ek_mem l j with e | ⟨p, h1, e⟩
    · show VR XG.F ρ ((l.lookup j).getD undef) _
      rw [show (ek l (.tmp j)) = undef from e]
      rw [e]; exact undefR
    · show VR XG.F ρ ((l.lookup j).getD undef) (ek l (.tmp j))
      rw [show (ek l (.tmp j)) = p.2 from e]
      rw [e]; exact h p h1
  | const v => exact flat_refl (fun _ h => h) _ hx
  | _ => exact undefR
section
variable {N : Blocks} {kv : List Value} {cs cs1 : List Frame} {w : World} {Z : Frame → World → Prop} {b : Frame} {k : List Item} {n i j : Nat} {x : Nat → Value} {ops : Array Oper} {td : List Nat} {o : Oper}
theorem wanted_none {y : Nat → Option Bool} (h : o.guard = none) : Region.wanted o y = true := by unfold Region.wanted; rw [h]
theorem wanted_some {g j : Nat} {t t' r : Bool} {og : Oper} (h : o.guard = some (g, t)) (hg : ops[g]? = some og) (hd : og.dst = some j) (hj : j < n) (hx : x j = .bool t') (hr : (t' == t) = r) : Region.wanted o (yielded ops (lay n x)) = r := by
  unfold Region.wanted
  rw [h]
  have : yielded ops (lay n x) g = some t' := by
    unfold yielded
    rw [hg]
    simp only [Option.bind_some, hd, lay_get hj, hx]
  simp only [this]
  subst hr
  cases t <;> cases t' <;> rfl
/-- a silent operation. -/
theorem CGo.bv (hbl : blG b.fn = true) (hk : b.kind ≠ .early) (v : Value) (ho : ops[i]? = some o) (hd : o.dst = some j) (hw : Region.wanted o (yielded ops (lay n x)) = true) (hr : Pure (evx n x) o v)
    (nx : CGo N kv cs (b.at ⟨lay n (upd x j v), []⟩ (.inRegion ops td :: k)) w cs1 Z) : CGo N kv cs (b.at ⟨lay n x, []⟩ (.inRegion ops (i :: td) :: k)) w cs1 Z := by
  refine CGo.val hbl hk v ho hw hr ?_
  rw [hd]
  show CGo N kv cs (b.at ⟨(lay n x).setIfInBounds j v, []⟩ _) w cs1 Z
  rw [lay_set]
  exact nx
/-- an operation that is not wanted. -/
theorem CGo.bu (hbl : blG b.fn = true) (ho : ops[i]? = some o) (hd : o.dst = some j) (hw : Region.wanted o (yielded ops (lay n x)) = false)
    (nx : CGo N kv cs (b.at ⟨lay n (upd x j undef), []⟩ (.inRegion ops td :: k)) w cs1 Z) : CGo N kv cs (b.at ⟨lay n x, []⟩ (.inRegion ops (i :: td) :: k)) w cs1 Z := by
  refine CGo.unwanted ho hw ?_
  rw [hd]
  show CGo N kv cs (b.at ⟨(lay n x).setIfInBounds j undef, []⟩ _) w cs1 Z
  rw [lay_set]
  exact nx
theorem CGo.bcond {c : Nat} {p q : Code} {t : Bool} (hc : c < n) (h : x c = .bool t) (nx : CGo N kv cs (b.at ⟨lay n x, []⟩ (.code (if t then p else q) :: k)) w cs1 Z) : CGo N kv cs (b.at ⟨lay n x, []⟩ (.code (.cond (.tmp c) p q) :: k)) w cs1 Z :=
  CGo.cond (tmp hc h) nx
/-- one operation's step, out of the simulation, that yields nothing. -/
theorem op_stepS {ρ : Rel} {e : Operand → Value} {o : Oper} {w w1 : World} (hok : okOp XG.P XG.P' fb true o = true) (he : EvR XG.F fb ρ e e) (hw : WR XG ρ w w) (hr : (execOp e o).run XG.P w = .ok .skip w1) :
    ∃ ρ1, ρ.le ρ1 ∧ WR XG ρ1 w1 w1 ∧ StepOK (rng ρ) (own XG ρ) w (rng ρ1) (own XG ρ1) w1 ((execOp e o).events XG.P w #[]) := by
  have hs := SS.execOp setXG.ok true setXG.wrs o hok e e he
  obtain ⟨ρ1, a', w1', es1, h1, h2, h3, h4, h5, h6, h7⟩ := hs.1 w w _ w1 #[] hw hr
  rw [show XG.P' = XG.P from rfl] at h1
  have e1 := congrArg Prod.fst h1
  rw [Sem.runT_fst, hr] at e1
  have e1 : (Result.ok Next.skip w1 : Result Next) = .ok a' w1' := e1
  injection e1 with ea ew
  subst ea; subst ew
  have ee : (execOp e o).events XG.P w #[] = es1 := by
    have := congrArg Prod.snd h1
    simpa [Sem.runT_eq] using this
  exact ⟨ρ1, h3.le, h2, by rw [ee]; exact stepOK_of hw h3 h2 h5⟩
/-- an operation on what is kept that yields nothing. -/
theorem CGo.blindS {a : Act} {e : Operand → Value} {R : World → Prop} (hbl : blG b.fn = true) (hk : b.kind ≠ .early) (ho : ops[i]? = some o) (hok : okOp XG.P XG.P' fb true o = true) (hw : Region.wanted o (yielded ops a.tmps) = true)
    (hsame : execOp a.eval o = execOp e o) (he : ∀ ρ, (∀ v ∈ kv, VR XG.F ρ v v) → EvR XG.F fb ρ e e) (hr : ∀ wc, Same w wc → ∃ w1, (execOp e o).run XG.P wc = .ok .skip w1 ∧ R w1 ∧ wc.heap.size ≤ w1.heap.size)
    (nx : ∀ w1, R w1 → CGo N kv cs (b.at (a.put o.dst undef) (.inRegion ops td :: k)) w1 cs1 Z) : CGo N kv cs (b.at a (.inRegion ops (i :: td) :: k)) w cs1 Z := fun wc s gs sl t SB ρ q hc hN hK => by
  have key : ∀ d, ∃ w1, (execOp e o).run XG.P (wc.at d) = .ok .skip w1 ∧ R w1 ∧ wc.heap.size ≤ w1.heap.size := fun d => hr (wc.at d) (s.trans (Same.at wc d))
  have hwr : ∀ d, WR XG ρ (wc.at d) (wc.at d) := fun d => ⟨hc.wr.fn, hc.wr.inj, hc.wr.heap, fun _ _ => rfl, hc.wr.sh⟩
  have hst : ∀ d w1, (execOp e o).run XG.P (wc.at d) = .ok .skip w1 → stepG XG.P true (G (b.at a (.inRegion ops (i :: td) :: k)) cs) (wc.at d) = .go (G (b.at (a.put o.dst undef) (.inRegion ops td :: k)) cs) w1 _ := fun d w1 h =>
    stepG_none (P := XG.P) (main := true) (b := b) (k := k) (cs := cs) (rest := td) (a := a) (w := wc.at d) ho hw hk (by rw [hsame]; exact h)
  have step : ∀ d w1, (execOp e o).run XG.P (wc.at d) = .ok .skip w1 →
      ∃ ρ1, ρ.le ρ1 ∧ WR XG ρ1 w1 w1 ∧ StepOK (rng ρ) (own XG ρ) (wc.at d) (rng ρ1) (own XG ρ1) w1 ((execOp e o).events XG.P (wc.at d) #[]) := fun d w1 h => op_stepS hok (he ρ hK) (hwr d) h
  have hap : ∀ (d : Nat) (w1 : World) (ρ1 : Rel) (es : Array Event), StepOK (rng ρ) (own XG ρ) (wc.at d) (rng ρ1) (own XG ρ1) w1 es → ∀ b, rng ρ1 b → ¬ SB b := fun d w1 ρ1 es m4 b hb hs => by
    rcases m4.new b hb with h1 | h1
    · exact hc.foot.apart b h1 hs
    · have h2 : wc.heap.size ≤ b := h1
      have := hc.foot.low b hs
      omega
  obtain ⟨M, gs1, a1, d, w1, es, sl1, t1, q1, hrun, hgo, hz, h01, hL1, hP1, _⟩ := beside_one (P := XG.P) (SB := SB) (sl := sl) hc.g0 rfl hc.leavers hc.past fun d => by
    obtain ⟨w1, h1, _, h3⟩ := key d
    obtain ⟨ρ1, m1, m2, m4⟩ := step d w1 h1
    refine ⟨_, w1, _, hst d w1 h1, h3, fun ev hev => ?_⟩
    have := mem_listed hev
    rw [hsame] at this
    exact evZ_of (m4.ev ev this) (hap d w1 ρ1 _ m4) m4.low
  obtain ⟨w1', h1, h2, h3⟩ := key d
  obtain ⟨ρ1, m1, m2, m4⟩ := step d w1' h1
  rw [hst d w1' h1] at hgo
  injection hgo with e1 e2 e3
  subst e1; subst e2
  obtain ⟨gs2, fr2, w2, sl2, t2, SB2, ρ2, q2, k1, k2, k3, k4, k5⟩ := nx w1' h2 w1' (Same.refl _) gs1 sl1 t1 SB ρ1 q1
    ⟨h01, hL1, hP1, ⟨hap d w1' ρ1 _ m4, fun b hb => Nat.lt_of_lt_of_le (hc.foot.low b hb) h3, m4.own, m4.low⟩, fun hb => (by rw [show (b.at (a.put o.dst undef) (.inRegion ops td :: k)).fn = b.fn from rfl, hbl] at hb; cases hb), fun c hcc hb => (hc.cs c hcc hb).mono m1, m2, trivial⟩ hN
    (fun x hx => (hK x hx).mono m1)
  exact ⟨gs2, fr2, w2, sl2, t2, SB2, ρ2, q2, Runs.trans ⟨M, hrun⟩ k1, k2, k3, k4, k5⟩
/-- an operation on what is kept; what it yields is not kept. -/
theorem CGo.blind0 {a : Act} {e : Operand → Value} {R : Value → World → Prop} (hbl : blG b.fn = true) (hk : b.kind ≠ .early) (ho : ops[i]? = some o) (hok : okOp XG.P XG.P' fb true o = true) (hw : Region.wanted o (yielded ops a.tmps) = true)
    (hsame : execOp a.eval o = execOp e o) (he : ∀ ρ, (∀ v ∈ kv, VR XG.F ρ v v) → EvR XG.F fb ρ e e) (hr : ∀ wc, Same w wc → ∃ v w1, (execOp e o).run XG.P wc = .ok (.value v) w1 ∧ R v w1 ∧ wc.heap.size ≤ w1.heap.size)
    (n : ∀ v w1, R v w1 → CGo N kv cs (b.at (a.put o.dst v) (.inRegion ops td :: k)) w1 cs1 Z) : CGo N kv cs (b.at a (.inRegion ops (i :: td) :: k)) w cs1 Z := fun wc s gs sl t SB ρ q hc hN hK => by
  have key : ∀ d, ∃ v w1, (execOp e o).run XG.P (wc.at d) = .ok (.value v) w1 ∧ R v w1 ∧ wc.heap.size ≤ w1.heap.size := fun d => hr (wc.at d) (s.trans (Same.at wc d))
  have hwr : ∀ d, WR XG ρ (wc.at d) (wc.at d) := fun d => ⟨hc.wr.fn, hc.wr.inj, hc.wr.heap, fun _ _ => rfl, hc.wr.sh⟩
  have hst : ∀ d v w1, (execOp e o).run XG.P (wc.at d) = .ok (.value v) w1 → stepG XG.P true (G (b.at a (.inRegion ops (i :: td) :: k)) cs) (wc.at d) = .go (G (b.at (a.put o.dst v) (.inRegion ops td :: k)) cs) w1 _ := fun d v w1 h =>
    stepG_value (P := XG.P) (main := true) (b := b) (k := k) (cs := cs) (rest := td) (a := a) (w := wc.at d) ho hw hk (by rw [hsame]; exact h)
  have step : ∀ d v w1, (execOp e o).run XG.P (wc.at d) = .ok (.value v) w1 → wc.heap.size ≤ w1.heap.size →
      ∃ ρ1, ρ.le ρ1 ∧ WR XG ρ1 w1 w1 ∧ VR XG.F ρ1 v v ∧ StepOK (rng ρ) (own XG ρ) (wc.at d) (rng ρ1) (own XG ρ1) w1 ((execOp e o).events XG.P (wc.at d) #[]) := fun d v w1 h _ =>
    let ⟨ρ1, m1, m2, m3, m4, _⟩ := op_step rfl setXG hok (he ρ hK) (hwr d) h
    ⟨ρ1, m1, m2, m3, m4⟩
  have hap : ∀ (d : Nat) (v : Value) (w1 : World) (ρ1 : Rel) (es : Array Event), StepOK (rng ρ) (own XG ρ) (wc.at d) (rng ρ1) (own XG ρ1) w1 es → ∀ b, rng ρ1 b → ¬ SB b := fun d v w1 ρ1 es m4 b hb hs => by
    rcases m4.new b hb with h1 | h1
    · exact hc.foot.apart b h1 hs
    · have h2 : wc.heap.size ≤ b := h1
      have := hc.foot.low b hs
      omega
  obtain ⟨M, gs1, a1, d, w1, es, sl1, t1, q1, hrun, hgo, hz, h01, hL1, hP1, _⟩ := beside_one (P := XG.P) (SB := SB) (sl := sl) hc.g0 rfl hc.leavers hc.past fun d => by
    obtain ⟨v, w1, h1, _, h3⟩ := key d
    obtain ⟨ρ1, m1, m2, m3, m4⟩ := step d v w1 h1 h3
    refine ⟨_, w1, _, hst d v w1 h1, h3, fun ev hev => ?_⟩
    have := mem_listed hev
    rw [hsame] at this
    exact evZ_of (m4.ev ev this) (hap d v w1 ρ1 _ m4) m4.low
  obtain ⟨v, w1', h1, h2, h3⟩ := key d
  obtain ⟨ρ1, m1, m2, m3, m4⟩ := step d v w1' h1 h3
  rw [hst d v w1' h1] at hgo
  injection hgo with e1 e2 e3
  subst e1; subst e2
  obtain ⟨gs2, fr2, w2, sl2, t2, SB2, ρ2, q2, k1, k2, k3, k4, k5⟩ := n v w1' h2 w1' (Same.refl _) gs1 sl1 t1 SB ρ1 q1
    ⟨h01, hL1, hP1, ⟨hap d v w1' ρ1 _ m4, fun b hb => Nat.lt_of_lt_of_le (hc.foot.low b hb) h3, m4.own, m4.low⟩, fun hb => (by rw [show (b.at (a.put o.dst v) (.inRegion ops td :: k)).fn = b.fn from rfl, hbl] at hb; cases hb), fun c hcc hb => (hc.cs c hcc hb).mono m1, m2, trivial⟩ hN
    (fun x hx => (hK x hx).mono m1)
  exact ⟨gs2, fr2, w2, sl2, t2, SB2, ρ2, q2, Runs.trans ⟨M, hrun⟩ k1, k2, k3, k4, k5⟩
/-- the caller is blind: a call. -/
theorem CGo.callB {f : FuncId} {fn : Func} {args : Array Value} {R : Value → World → Prop} (hbl : blG b.fn = true) (ho : ops[i]? = some o) (hd : o.dst = some j) (hw : Region.wanted o (yielded ops (lay n x)) = true) (hk : b.kind ≠ .early)
    (ev : ∀ w, (execOp (evx n x) o).run XG.P w = .ok (.enter f args) w ∧ (execOp (evx n x) o).events XG.P w #[] = #[]) (hf : XG.P.funcs[f]? = some fn)
    (hargs : ∀ ρ, (∀ v ∈ kv, VR XG.F ρ v v) → blG f = false → VsR XG.F ρ args.toList args.toList) (hS : ∀ v w wc, Same w wc → R v w → R v wc)
    (hcall : CRet N kv f args w R) (nx : ∀ v w', R v w' → CGo N kv cs (b.at ⟨lay n (upd x j v), []⟩ (.inRegion ops td :: k)) w' cs1 Z) : CGo N kv cs (b.at ⟨lay n x, []⟩ (.inRegion ops (i :: td) :: k)) w cs1 Z := by
  have hs : ∀ w, stepG XG.P true (G (b.at ⟨lay n x, []⟩ (.inRegion ops (i :: td) :: k)) cs) w = .go (G (Frame.enter XG.P f args .normal) (b.at ⟨lay n x, []⟩ (.inRegion ops (i :: td) :: k) :: cs)) w #[] := fun w => by
    rw [stepG_enter ho hw hk (ev w).1]
    unfold listed
    rw [(ev w).2, seen_none]
  refine CGo.sil (.step hs (.refl _ _)) (fun ρ h1 h2 hk => ⟨fun hb => FSt.enter hf (hargs ρ hk (by rw [← enter_fn XG.P f args]; exact hb)), fun c hc => ?_⟩) ((hcall _).then ?_)
  · rcases List.mem_cons.1 hc with rfl | hc
    · exact h1
    · exact h2 c hc
  rintro fr1 w1 ⟨hfn, v, hl, hv, hr⟩
  refine CGo.sil (.step (fun w => stepG_leaves hl) (.refl _ _)) (fun ρ h1 h2 _ => ⟨fun hb => ?_, fun c hc => h2 c (.tail _ hc)⟩) ?_
  · rw [Frame.finish_fn, show (b.at ⟨lay n x, []⟩ (.inRegion ops (i :: td) :: k)).fn = b.fn from rfl, hbl] at hb
    cases hb
  rw [Frame.finish_at, ho]
  show CGo N kv cs (b.at ((⟨lay n x, []⟩ : Act).put o.dst v) _) w1 cs1 Z
  rw [hd]
  show CGo N kv cs (b.at ⟨(lay n x).setIfInBounds j v, []⟩ _) w1 cs1 Z
  rw [lay_set]
  exact nx v w1 hr
end
end Go.Proofs.YtkpekiajdlolnabGreat.Ph
