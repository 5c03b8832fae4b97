/-
 PROVED IN PARTS: text 1 of 8 of the carrying ground of the claim (see each part's own remark). Conditions: those that each theorem names.
-/
import Derived.Laws.AppendOwn
import Derived.Laws.Rows
import Derived.Laws.World
import Derived.Below
import Derived.Conc.Beside
set_option linter.unusedVariables false
set_option linter.unusedSimpArgs false
set_option maxRecDepth 100000
set_option maxHeartbeats 4000000
namespace Go
theorem zx {α : Type _} {xs : Array α} {i : Nat} {b : α} (h : xs[i]? = some b) : ∃ h : i < xs.size, xs[i] = b := Array.getElem?_eq_some_iff.1 h
theorem xoi {α : Type _} {a b : α} (h : some a = some b) : a = b := Option.some.inj h
theorem xne {α : Type _} {xs : Array α} {i : Nat} {a : α} {j : Nat} (h : i ≠ j) : (xs.setIfInBounds i a)[j]? = xs[j]? := Array.getElem?_setIfInBounds_ne h
theorem xsl {α : Type _} {xs : Array α} {i : Nat} {a : α} (h : i < xs.size) : (xs.setIfInBounds i a)[i]? = some a := Array.getElem?_setIfInBounds_self_of_lt h
theorem xcb {w w' : World} {a : Addr} (h : w'.heap[a.block]? = w.heap[a.block]?) : w'.cell? a = w.cell? a := World.cell?_of_block h
theorem jo (B : Nat) (w : World) : Go.RowKit.Below B w w := Go.RowKit.Below.refl B w
theorem jy (n : Nat) : n ≤ n := Nat.le_refl n
theorem xdf {p : Prop} [Decidable p] (h : ¬p) : decide p = false := decide_eq_false h
theorem xdt {p : Prop} [Decidable p] (h : p) : decide p = true := decide_eq_true h
theorem xbl (w : World) (a : Addr) {u : Value} (h : w.cell? a = some u) : a.block < w.heap.size := World.block_lt_of_cell? w a h
theorem xho (w : World) (a : Addr) (k : Nat) (v : Value) (h : k ≠ a.block) : (w.setCell a v).heap[k]? = w.heap[k]? := heap_setCell_other w a k v h
theorem xhs (w : World) (g i : Nat) (cs : Array Value) (t : TypeId) (v : Value) (h : w.heap[g]? = some (.cells cs t (0, 0))) : (w.setCell ⟨g, i, none⟩ v).heap[g]? = some (.cells (cs.setIfInBounds i v) t (0, 0)) := heap_setCell_same w g i cs t v h
theorem xlt {n m k : Nat} (h : n ≤ m) (h2 : m ≤ k) : n ≤ k := Nat.le_trans h h2
theorem xzl (n : Nat) : 0 ≤ n := Nat.zero_le n
theorem xll {n m k : Nat} (h : n < m) (h2 : m ≤ k) : n < k := Nat.lt_of_lt_of_le h h2
theorem qw {α : Type _} {x : Option α} {a b : α} (h1 : x = some a) (h2 : x = some b) : a = b := Option.some.inj (h1.symm.trans h2)
end Go
namespace Go.Proofs.YtkpekiajdlolnabGreat.Sim
section
open Go
abbrev Rel := Nat → Nat → Prop
def Rel.le (ρ ρ' : Rel) : Prop := ∀ a b, ρ a b → ρ' a b
theorem Rel.le_refl (ρ : Rel) : ρ.le ρ := fun _ _ h => h
theorem Rel.le_trans {a b c : Rel} (h : a.le b) (k : b.le c) : a.le c := fun _ _ x => k _ _ (h _ _ x)
mutual
inductive VR (F : FuncId → Prop) (ρ : Rel) : Value → Value → Prop
 |bool (b : Bool) : VR F ρ (.bool b) (.bool b)
 |int (k : IntKind) (n : Int) : VR F ρ (.int k n) (.int k n)
 |string (s : ByteArray) : VR F ρ (.string s) (.string s)
 |qai : VR F ρ (.pointer none) (.pointer none)
 |ptr {b b' o : Nat} {s : Option Nat} : ρ b b' → VR F ρ (.pointer (some ⟨b, o, s⟩)) (.pointer (some ⟨b', o, s⟩))
 |jk (n c : Nat) : VR F ρ (.slice none n c) (.slice none n c)
 |slice {b b' o : Nat} {s : Option Nat} {n c : Nat} : ρ b b' → VR F ρ (.slice (some ⟨b, o, s⟩) n c) (.slice (some ⟨b', o, s⟩) n c)
 |qa9 : VR F ρ (.map none) (.map none)
 |map {b b' : Nat} : ρ b b' → VR F ρ (.map (some b)) (.map (some b'))
 |func {f : FuncId} {cs cs' : Array Value} : F f → jw F ρ cs.toList cs'.toList → VR F ρ (.func (.func f) #[] cs) (.func (.func f) #[] cs')
 |yield {b b' : Nat} : ρ b b' → VR F ρ (.func (.yield b) #[] #[]) (.func (.yield b') #[] #[])
 |nilFunc : VR F ρ .nilFunc .nilFunc
 |agg {cs cs' : Array Value} : jw F ρ cs.toList cs'.toList → VR F ρ (.agg cs) (.agg cs')
 |tuple {cs cs' : Array Value} : jw F ρ cs.toList cs'.toList → VR F ρ (.tuple cs) (.tuple cs')
inductive jw (F : FuncId → Prop) (ρ : Rel) : List Value → List Value → Prop
 |nil : jw F ρ [] []
 |cons {v v' : Value} {l l' : List Value} : VR F ρ v v' → jw F ρ l l' → jw F ρ (v :: l) (v' :: l')
end
section
variable {F : FuncId → Prop} {ρ ρ' : Rel}
mutual
theorem VR.mono (h : ρ.le ρ') : ∀ {v v' : Value}, VR F ρ v v' → VR F ρ' v v'
 |_, _, .bool b => .bool b
 |_, _, .int k n => .int k n
 |_, _, .string s => .string s
 |_, _, .qai => .qai
 |_, _, .ptr r => .ptr (h _ _ r)
 |_, _, .jk n c => .jk n c
 |_, _, .slice r => .slice (h _ _ r)
 |_, _, .qa9 => .qa9
 |_, _, .map r => .map (h _ _ r)
 |_, _, .func f r => .func f (r.mono h)
 |_, _, .yield r => .yield (h _ _ r)
 |_, _, .nilFunc => .nilFunc
 |_, _, .agg r => .agg (r.mono h)
 |_, _, .tuple r => .tuple (r.mono h)
theorem jw.mono (h : ρ.le ρ') : ∀ {l l' : List Value}, jw F ρ l l' → jw F ρ' l l'
 |_, _, .nil => .nil
 |_, _, .cons a b => .cons (a.mono h) (b.mono h)
end
theorem jw.length {l l' : List Value} (h : jw F ρ l l') : l.length = l'.length := by
 induction l generalizing l' with
 |nil => cases h; rfl
 |cons v l ih => cases h with | cons _ h2 => simp [ih h2]
theorem jw.get? : ∀ {l l' : List Value}, jw F ρ l l' → ∀ (i : Nat) {v : Value}, l[i]? = some v → ∃ v', l'[i]? = some v' ∧ VR F ρ v v'
 |_, _, .nil, i, v, h => by simp at h
 |_, _, .cons a b, 0, v, h => by simp at h; subst h; exact ⟨_, rfl, a⟩
 |_, _, .cons a b, i + 1, v, h => by simpa using b.get? i (by simpa using h)
theorem jw.q1f : ∀ {l l' : List Value}, jw F ρ l l' → ∀ (i : Nat), l[i]? = none → l'[i]? = none := by
 intro l l' h i hi
 rw [List.getElem?_eq_none_iff] at hi ⊢
 rw [← h.length]; exact hi
theorem jw.append : ∀ {l l' m m' : List Value}, jw F ρ l l' → jw F ρ m m' → jw F ρ (l ++ m) (l' ++ m')
 |_, _, _, _, .nil, h => h
 |_, _, _, _, .cons a b, h => .cons a (b.append h)
theorem jw.set : ∀ {l l' : List Value}, jw F ρ l l' → ∀ (i : Nat) {v v' : Value}, VR F ρ v v' → jw F ρ (l.set i v) (l'.set i v')
 |_, _, .nil, _, _, _, _ => .nil
 |_, _, .cons _ b, 0, _, _, h => .cons h b
 |_, _, .cons a b, i + 1, _, _, h => .cons a (b.set i h)
theorem jw.drop : ∀ {l l' : List Value}, jw F ρ l l' → ∀ (i : Nat), jw F ρ (l.drop i) (l'.drop i)
 |_, _, h, 0 => h
 |_, _, .nil, _ + 1 => .nil
 |_, _, .cons _ b, i + 1 => b.drop i
theorem jw.take : ∀ {l l' : List Value}, jw F ρ l l' → ∀ (i : Nat), jw F ρ (l.take i) (l'.take i)
 |_, _, _, 0 => .nil
 |_, _, .nil, _ + 1 => .nil
 |_, _, .cons a b, i + 1 => .cons a (b.take i)
theorem jw.replicate {v v' : Value} (h : VR F ρ v v') : ∀ n, jw F ρ (List.replicate n v) (List.replicate n v')
 |0 => .nil
 |n + 1 => .cons h (jw.replicate h n)
theorem jw.map {α : Type} (f g : α → Value) (l : List α) (h : ∀ x ∈ l, VR F ρ (f x) (g x)) : jw F ρ (l.map f) (l.map g) := by
 induction l with
 |nil => exact .nil
 |cons x l ih => exact .cons (h x (by simp)) (ih fun y hy => h y (by simp [hy]))
theorem VR.cells {v v' : Value} (h : VR F ρ v v') : jw F ρ v.cells.toList v'.cells.toList := by
 cases h with
 |agg h => exact h
 |_ => simp only [Value.cells]; exact .cons (by first | exact .bool _ | exact .int _ _ | exact .string _ | exact .qai | exact .ptr ‹_› | exact .jk _ _ | exact .slice ‹_› | exact .qa9 | exact .map ‹_› | exact .func ‹_› ‹_› | exact .yield ‹_› | exact .nilFunc | exact .tuple ‹_›) .nil
theorem jw.size {c c' : Array Value} (h : jw F ρ c.toList c'.toList) : c.size = c'.size := by simpa using h.length
theorem jw.qvw {c c' : Array Value} (h : jw F ρ c.toList c'.toList) {i : Nat} {v : Value} (hi : c[i]? = some v) : ∃ v', c'[i]? = some v' ∧ VR F ρ v v' := by
 obtain ⟨v', h1, h2⟩ := h.get? i (v := v) (by simpa using hi)
 exact ⟨v', by simpa using h1, h2⟩
theorem qeq : VR F ρ undef undef := .tuple .nil
theorem jw.qjm {c c' : Array Value} (h : jw F ρ c.toList c'.toList) (i : Nat) : VR F ρ (c.getD i undef) (c'.getD i undef) := by
 have e : ∀ a : Array Value, a.getD i undef = a[i]?.getD undef := fun a => by simp
 rw [e, e]
 cases hc : c[i]? with
 |none =>
  have : c'[i]? = none := by
   have := h.q1f i (by simpa using hc)
   simpa using this
  rw [this]; exact qeq
 |some v => obtain ⟨v', h1, h2⟩ := h.qvw hc; rw [h1]; exact h2
theorem jw.qtf {c c' : Array Value} (h : jw F ρ c.toList c'.toList) (i : Nat) {v v' : Value} (hv : VR F ρ v v') : jw F ρ (c.setIfInBounds i v).toList (c'.setIfInBounds i v').toList := by
 rw [Array.toList_setIfInBounds, Array.toList_setIfInBounds]; exact h.set i hv
theorem jw.q8s {c c' : Array Value} (h : jw F ρ c.toList c'.toList) {v v' : Value} (hv : VR F ρ v v') : jw F ρ (c.push v).toList (c'.push v').toList := by
 rw [Array.toList_push, Array.toList_push]; exact h.append (.cons hv .nil)
theorem jw.qeb {c c' d d' : Array Value} (h : jw F ρ c.toList c'.toList) (k : jw F ρ d.toList d'.toList) : jw F ρ (c ++ d).toList (c' ++ d').toList := by
 rw [Array.toList_append, Array.toList_append]; exact h.append k
theorem jw.qvv {c c' : Array Value} (h : jw F ρ c.toList c'.toList) (i j : Nat) : jw F ρ (c.extract i j).toList (c'.extract i j).toList := by
 rw [Array.toList_extract, Array.toList_extract, List.extract_eq_take_drop, List.extract_eq_take_drop]; exact (h.drop i).take _
theorem jw.q0k {α : Type} (f g : α → Value) (l : Array α) (h : ∀ x, VR F ρ (f x) (g x)) : jw F ρ (l.map f).toList (l.map g).toList := by
 rw [Array.toList_map, Array.toList_map]; exact jw.map f g _ fun x _ => h x
end
mutual
def flat (F : FuncId → Bool) : Value → Bool
 | .bool _ | .int .. | .string _ | .pointer none | .slice none _ _ | .map none | .nilFunc => true
 | .func (.func f) first cs => F f && first.isEmpty && cs.isEmpty
 | .agg ⟨l⟩ | .tuple ⟨l⟩ => qsd F l
 |_ => false
def qsd (F : FuncId → Bool) : List Value → Bool
 | [] => true
 |v :: l => flat F v && qsd F l
end
mutual
theorem qdz {Fb : FuncId → Bool} {F : FuncId → Prop} (hF : ∀ f, Fb f = true → F f) {ρ : Rel} : ∀ (v : Value), flat Fb v = true → VR F ρ v v
 | .bool b, _ => .bool b
 | .int k n, _ => .int k n
 | .string s, _ => .string s
 | .pointer none, _ => .qai
 | .slice none n c, _ => .jk n c
 | .map none, _ => .qa9
 | .nilFunc, _ => .nilFunc
 | .func (.func f) first cs, h => by
  simp only [flat, Bool.and_eq_true, Array.isEmpty_iff] at h
  obtain ⟨⟨h1, rfl⟩, rfl⟩ := h
  exact .func (hF f h1) .nil
 | .agg ⟨l⟩, h => .agg (qgi hF l (by simpa [flat] using h))
 | .tuple ⟨l⟩, h => .tuple (qgi hF l (by simpa [flat] using h))
 | .float .., h | .complex .., h | .pointer (some _), h | .slice (some _) _ _, h | .map (some _), h | .chan _, h | .iface .., h | .nilIface, h => by simp [flat] at h
 | .func (.method _) _ _, h | .func (.methodOf ..) _ _, h | .func (.via ..) _ _, h | .func (.yield _) _ _, h => by simp [flat] at h
theorem qgi {Fb : FuncId → Bool} {F : FuncId → Prop} (hF : ∀ f, Fb f = true → F f) {ρ : Rel} : ∀ (l : List Value), qsd Fb l = true → jw F ρ l l
 | [], _ => .nil
 |v :: l, h => by
  simp only [qsd, Bool.and_eq_true] at h
  exact .cons (qdz hF v h.1) (qgi hF l h.2)
end
structure ER (F : FuncId → Prop) (ρ : Rel) (e e' : MapEntry) : Prop where
 key : VR F ρ e.key e'.key
 val : VR F ρ e.val e'.val
 born : e.born = e'.born
inductive EsR (F : FuncId → Prop) (ρ : Rel) : List MapEntry → List MapEntry → Prop
 |nil : EsR F ρ [] []
 |cons {e e' : MapEntry} {l l' : List MapEntry} : ER F ρ e e' → EsR F ρ l l' → EsR F ρ (e :: l) (e' :: l')
theorem ER.mono {F : FuncId → Prop} {ρ ρ' : Rel} (h : ρ.le ρ') {e e' : MapEntry} (k : ER F ρ e e') : ER F ρ' e e' := ⟨k.key.mono h, k.val.mono h, k.born⟩
theorem EsR.mono {F : FuncId → Prop} {ρ ρ' : Rel} (h : ρ.le ρ') : ∀ {l l' : List MapEntry}, EsR F ρ l l' → EsR F ρ' l l'
 |_, _, .nil => .nil
 |_, _, .cons a b => .cons (a.mono h) (b.mono h)
structure Cx where
 P : Program
 P' : Program
 F : FuncId → Prop
 C : Code → Prop
 Sh : Nat → Prop
def Cx.G (X : Cx) (f : FuncId) : Prop := ∃ fn, X.P.funcs[f]? = some fn ∧ X.P'.funcs[f]? = some fn
inductive OR (X : Cx) (ρ : Rel) : Obj → Obj → Prop
 |cells {c c' : Array Value} {e : TypeId} {z z' : Nat × Nat} : jw X.F ρ c.toList c'.toList → (z' = z ∨ z' = (0, 0)) → OR X ρ (.cells c e z) (.cells c' e z')
 |map {es es' : Array MapEntry} {clock : Nat} : EsR X.F ρ es.toList es'.toList → OR X ρ (.map es clock) (.map es' clock)
 |stringIter (s : ByteArray) (p : Nat) : OR X ρ (.stringIter s p) (.stringIter s p)
 |qaq (since : Nat) (seen : Array Nat) (st : Nat) : OR X ρ (.mapIter none since seen st) (.mapIter none since seen st)
 |mapIter {m m' since : Nat} {seen : Array Nat} {st : Nat} : ρ m m' → OR X ρ (.mapIter (some m) since seen st) (.mapIter (some m') since seen st)
 |loop {s : LoopState} {pend : Option Code} {fn : FuncId} {tmps qal : Array Value} {params : Array Tmp} {assign body : Code} {d d' : Nat} :
   jw X.F ρ tmps.toList qal.toList → ρ d d' → (∀ c, pend = some c → X.C c) → X.C assign → X.C body → X.G fn →
   OR X ρ (.loop { state := s, pending := pend, fn, tmps, params, assign, body, defers := d }) (.loop { state := s, pending := pend, fn, tmps := qal, params, assign, body, defers := d' })
 |number {b b' o : Nat} {s : Option Nat} (lost : Bool) : ρ b b' → OR X ρ (.number ⟨b, o, s⟩ lost) (.number ⟨b', o, s⟩ lost)
 |xw : OR X ρ (.deferred none) (.deferred none)
 |deferred : OR X ρ (.deferred (some [])) (.deferred (some []))
theorem OR.mono {X : Cx} {ρ ρ' : Rel} (h : ρ.le ρ') {o o' : Obj} (k : OR X ρ o o') : OR X ρ' o o' := by
 cases k with
 |cells a b => exact .cells (a.mono h) b
 |map a => exact .map (a.mono h)
 |stringIter s p => exact .stringIter s p
 |qaq a b c => exact .qaq a b c
 |mapIter r => exact .mapIter (h _ _ r)
 |loop a b c d e g => exact .loop (a.mono h) (h _ _ b) c d e g
 |number l r => exact .number l (h _ _ r)
 |xw => exact .xw
 |deferred => exact .deferred
structure WR (X : Cx) (ρ : Rel) (w w' : World) : Prop where
 fn : ∀ {a b b'}, ρ a b → ρ a b' → b = b'
 inj : ∀ {a a' b}, ρ a b → ρ a' b → a = a'
 heap : ∀ {a b}, ρ a b → ∃ o o', w.heap[a]? = some o ∧ w'.heap[b]? = some o' ∧ OR X ρ o o'
 tape : ∀ i q, w.tape (w.drawn + i) q = w'.tape (w'.drawn + i) q
 sh : ∀ a, X.Sh a → (∃ c e n, w.heap[a]? = some (.cells c e (0, n)) ∧ c.size ≤ n) ∨ (∃ es k, w.heap[a]? = some (.map es k))
structure Eff (X : Cx) (ρ ρ' : Rel) (w w' v : World) : Prop where     -- w, w': the q7v world before, behind; v: the lone world before
 le : ρ.le ρ'
 size : w.heap.size ≤ w'.heap.size
 keep : ∀ b, b < w.heap.size → (∀ a, ρ a b → X.Sh a) → w'.heap[b]? = w.heap[b]?
 new : ∀ a b, ρ' a b → ρ a b ∨ (v.heap.size ≤ a ∧ w.heap.size ≤ b)
 drawn : ∃ d, w'.drawn = w.drawn + d
 tape : w'.tape = w.tape
 os : w'.os = w.os
 output : w'.output = w.output
 cov : ∀ b, w.heap.size ≤ b → b < w'.heap.size → ∃ a, ρ' a b
def qhn (X : Cx) (ρ : Rel) (e : Event) : Prop :=
 match e.loc with
 | .cell a => e.sync = false ∧ ∃ b, ρ b a.block ∧ (e.write = true → ¬ X.Sh b)
 | .obj r => e.sync = false ∧ ∃ b, ρ b r ∧ (e.write = true → ¬ X.Sh b)
 | .mark .noRoom => True
 |_ => False
theorem qhn.mono {X : Cx} {ρ ρ' : Rel} (h : ρ.le ρ') {e : Event} (k : qhn X ρ e) : qhn X ρ' e := by
 unfold qhn at *
 split at k
 ·exact ⟨k.1, let ⟨b, h1, h2⟩ := k.2; ⟨b, h _ _ h1, h2⟩⟩
 ·exact ⟨k.1, let ⟨b, h1, h2⟩ := k.2; ⟨b, h _ _ h1, h2⟩⟩
 ·trivial
 ·exact k.elim
theorem Eff.refl (X : Cx) (ρ : Rel) (w v : World) : Eff X ρ ρ w w v := ⟨ρ.le_refl, jy _, fun _ _ _ => rfl, fun _ _ h => .inl h, ⟨0, rfl⟩, rfl, rfl, rfl, fun _ h1 h2 => absurd h1 (Nat.not_le.2 h2)⟩
theorem Eff.trans {X : Cx} {ρ ρ1 ρ2 : Rel} {w w1 w2 v v1 : World} (h : Eff X ρ ρ1 w w1 v) (k : Eff X ρ1 ρ2 w1 w2 v1) (hv : v.heap.size ≤ v1.heap.size) : Eff X ρ ρ2 w w2 v := by
 refine ⟨Rel.le_trans h.le k.le, xlt h.size k.size, fun b hb hs => ?_, fun a b hab => ?_, ?_, k.tape.trans h.tape, k.os.trans h.os, k.output.trans h.output, fun b h1 h2 => (Nat.lt_or_ge b w1.heap.size).elim (fun x => let ⟨a, y⟩ := h.cov b h1 x; ⟨a, k.le _ _ y⟩) fun x => k.cov b x h2⟩
 ·rw [k.keep b (xll hb h.size) (fun a ha => ?_), h.keep b hb hs]
  rcases h.new a b ha with h1 | ⟨_, h2⟩
  ·exact hs a h1
  ·omega
 ·rcases k.new a b hab with h1 | ⟨h1, h2⟩
  ·exact h.new a b h1
  ·exact .inr ⟨xlt hv h1, xlt h.size h2⟩
 ·obtain ⟨d1, e1⟩ := h.drawn
  obtain ⟨d2, e2⟩ := k.drawn
  exact ⟨d1 + d2, by rw [e2, e1]; omega⟩
def qnu : Halt → Prop
 | .panic _ | .stuck _ => True
 | .unsupported (.initOrder _) => False
 | .unsupported _ => True
 |_ => False
def Clean (w : World) (r : Nat) : Prop := ∀ (d : Deferred) (ds : List Deferred), w.heap[r]? ≠ some (Obj.deferred (some (d :: ds)))
def KC (w w1 : World) : Prop := ∀ r, Clean w r → Clean w1 r
theorem KC.refl (w : World) : KC w w := fun _ h => h
theorem KC.trans {a b c : World} (h : KC a b) (k : KC b c) : KC a c := fun r x => k r (h r x)
def NB (_ : World) : Prop := True
def qdd {α : Type} (P : Program) (s : Sem α) (w : World) : Prop := ∀ es, ∀ e ∈ (s.runT P w es).2, e ∈ es ∨ e.loc ≠ .output
structure SS (X : Cx) {α β : Type} (ρ : Rel) (s : Sem α) (s' : Sem β) (Q : Rel → α → β → Prop) : Prop where
 ok : ∀ w w' a w1 es, WR X ρ w w' → s.run X.P w = .ok a w1 →
  ∃ ρ1 a' w1' es1, s'.runT X.P' w' es = (.ok a' w1', es ++ es1) ∧ WR X ρ1 w1 w1' ∧ Eff X ρ ρ1 w' w1' w ∧ w.heap.size ≤ w1.heap.size ∧ (∀ e ∈ es1, qhn X ρ1 e) ∧ Q ρ1 a a' ∧ KC w w1
 mild : ∀ w w' h w1, WR X ρ w w' → s.run X.P w = .halt h w1 → qnu h ∧ KC w w1
 out : ∀ w w', WR X ρ w w' → qdd X.P s w
theorem qdd.bind {α β : Type} {P : Program} {s : Sem α} {f : α → Sem β} {w : World} (h : qdd P s w) (k : ∀ a w1, s.run P w = .ok a w1 → qdd P (f a) w1) : qdd P (s >>= f) w := by
 intro es e he
 have he : e ∈ ((s.bind f).runT P w es).2 := he
 rw [Sem.runT_bind'] at he
 have h1 := h es
 have h0 := Sem.runT_fst P s w es
 rcases hr : s.runT P w es with ⟨r, es1⟩
 rw [hr] at he h1 h0
 cases r with
 |ok a w1 =>
  rcases k a w1 h0.symm es1 e he with h2 | h2
  ·exact h1 e h2
  ·exact .inr h2
 |halt x w1 => exact h1 e he
theorem qdd.quiet {α : Type} {P : Program} {s : Sem α} {w : World} (h : ∀ es, (s.runT P w es).2 = es) : qdd P s w := fun es e he => by rw [h es] at he; exact .inl he
theorem qdd.one {α : Type} {P : Program} {s : Sem α} {w : World} (h : ∀ es, (s.runT P w es).2 = es ∨ ∃ e, e.loc ≠ .output ∧ (s.runT P w es).2 = es.push e) : qdd P s w := fun es e he => by
 rcases h es with h | ⟨e', h1, h2⟩
 ·rw [h] at he; exact .inl he
 ·rw [h2] at he
  rcases Array.mem_push.1 he with h | rfl
  ·exact .inl h
  ·exact .inr h1
section
variable {X : Cx} {ρ : Rel} {α β γ δ : Type}
theorem SS.mono {s : Sem α} {s' : Sem β} {Q R : Rel → α → β → Prop} (h : SS X ρ s s' Q) (hq : ∀ ρ1 a a', ρ.le ρ1 → Q ρ1 a a' → R ρ1 a a') : SS X ρ s s' R := by
 refine ⟨fun w w' a w1 es hw hr => ?_, h.2, h.3⟩
 obtain ⟨ρ1, a', w1', es1, h1, h2, h3, h4, h5, h6, h7⟩ := h.1 w w' a w1 es hw hr
 exact ⟨ρ1, a', w1', es1, h1, h2, h3, h4, h5, hq _ _ _ h3.le h6, h7⟩
theorem SS.pure {a : α} {a' : β} {Q : Rel → α → β → Prop} (h : Q ρ a a') : SS X ρ (Pure.pure a : Sem α) (Pure.pure a' : Sem β) Q := by
 refine ⟨fun w w' b w1 es hw hr => ?_, fun w w' h w1 hw hr => (by cases hr), fun w w' _ => .quiet fun _ => rfl⟩
 have hr' : Result.ok a w = Result.ok b w1 := hr
 cases hr'
 exact ⟨ρ, a', w', #[], by simp [Pure.pure, Sem.runT], hw, Eff.refl .., jy _, by simp, h, KC.refl _⟩
structure q4t (P : Program) (s : Sem α) (w : World) : Prop where
 ok : ∀ a w1, s.run P w = .ok a w1 → KC w w1
 mild : ∀ h w1, s.run P w = .halt h w1 → qnu h ∧ KC w w1
 out : qdd P s w
def q9 (s : Sem α) : Prop := ∀ P w, ∃ h w1, s.run P w = .halt h w1 ∧ (qnu h ∧ KC w w1) ∧ qdd P s w
def zu (s : Sem α) : Prop := ∀ P w, q4t P s w
theorem q9.qzr {s : Sem α} (h : q9 s) : zu s := fun P w => by
 obtain ⟨y, w2, h1, h2, h3⟩ := h P w
 exact ⟨fun _ _ e => (by rw [h1] at e; cases e), fun x w1 e => (by rw [h1] at e; cases e; exact h2), h3⟩
theorem SS.dies {s : Sem α} {s' : Sem β} {Q : Rel → α → β → Prop} (h : q9 s) : SS X ρ s s' Q :=
 ⟨fun w _ _ _ _ _ hr => (by
  obtain ⟨y, w2, h1, _⟩ := h X.P w
  rw [h1] at hr; cases hr), fun _ _ _ _ _ hr => (h.qzr _ _).2 _ _ hr, fun _ _ _ => (h.qzr _ _).3⟩
theorem q9.halt (h : Halt) (m : qnu h) : q9 (Sem.halt h : Sem α) := fun _ w => ⟨h, w, rfl, ⟨m, KC.refl _⟩, .quiet fun _ => rfl⟩
theorem q9.stuck (s : String) : q9 (stuck s : Sem α) := q9.halt _ trivial
theorem q9.unsupported (s : Unsupported) (m : qnu (.unsupported s) := by trivial) : q9 (unsupported s : Sem α) := q9.halt _ m
theorem q9.goPanic (v : Value) : q9 (goPanic v : Sem α) := q9.halt _ trivial
theorem zu.pure (a : α) : zu (Pure.pure a : Sem α) := fun P w => ⟨fun _ _ e => (by cases e; exact KC.refl _), fun _ _ e => (by cases e), .quiet fun _ => rfl⟩
theorem zu.bind {s : Sem α} {f : α → Sem β} (h : zu s) (k : ∀ a, zu (f a)) : zu (s >>= f) := by
 intro P w
 refine ⟨fun a w1 e => ?_, fun x w1 e => ?_, (h P w).3.bind fun a w1 _ => (k a P w1).3⟩
 ·rw [Sem.run_bind] at e
  cases hs : s.run P w with
  |ok b w2 => rw [hs] at e; exact ((h P w).1 _ _ hs).trans ((k b P w2).1 a w1 e)
  |halt y w2 => rw [hs] at e; cases e
 ·rw [Sem.run_bind] at e
  cases hs : s.run P w with
  |ok b w2 =>
   rw [hs] at e
   have := (k b P w2).2 x w1 e
   exact ⟨this.1, ((h P w).1 _ _ hs).trans this.2⟩
  |halt y w2 => rw [hs] at e; cases e; exact (h P w).2 _ _ hs
theorem q9.bind {s : Sem α} {f : α → Sem β} (t : zu s) (h : ∀ a, q9 (f a)) : q9 (s >>= f) := by
 intro P w
 have ho : qdd P (s >>= f) w := (t P w).3.bind fun a w1 _ => ((h a).qzr P w1).3
 rw [Sem.run_bind]
 cases hs : s.run P w with
 |ok b w2 =>
  obtain ⟨x, w3, h1, h2, h3⟩ := h b P w2
  exact ⟨x, w3, h1, ⟨h2.1, ((t P w).1 _ _ hs).trans h2.2⟩, ho⟩
 |halt x w2 => exact ⟨x, w2, rfl, (t P w).2 _ _ hs, ho⟩
theorem q9.ku {s : Sem α} {f : α → Sem β} (h : q9 s) : q9 (s >>= f) := by
 intro P w
 obtain ⟨y, w2, h1, h2, h3⟩ := h P w
 have ho : qdd P (s >>= f) w := h3.bind fun a w1 e => by rw [h1] at e; cases e
 rw [Sem.run_bind, h1]
 exact ⟨y, w2, rfl, h2, ho⟩
theorem zu.program {f : Program → Sem α} (h : ∀ P, zu (f P)) : zu (Go.program >>= f) := fun P w => ⟨(h P P w).1, (h P P w).2, fun es => (h P P w).3 es⟩
theorem q9.program {f : Program → Sem α} (h : ∀ P, q9 (f P)) : q9 (Go.program >>= f) := fun P w => let ⟨x, w1, a, b, c⟩ := h P P w; ⟨x, w1, a, b, fun es => c es⟩
theorem zu.choose (q : Question) : zu (Go.choose q) := fun P w => by
 have e' : ∀ r, (Go.choose q).run P w = r → (if q.forced then Result.ok 0 w else .ok (q.cut (w.tape w.drawn q)) { w with drawn := w.drawn + 1 }) = r := fun r e => e
 refine ⟨fun a w1 e => ?_, fun x w1 e => ?_, .quiet fun es => ?_⟩
 rotate_left 2
 ·simp only [Go.choose, Sem.runT]
  split <;> rfl
 ·have := e' _ e
  split at this <;> (cases this; exact KC.refl _)
 ·have := e' _ e
  split at this <;> cases this
theorem zu.shape (r : Nat) : zu (Go.shape r) := fun P w => ⟨fun _ _ e => (by cases e; exact KC.refl _), fun _ _ e => (by cases e), .quiet fun _ => rfl⟩
theorem zu.frozen (a : Addr) : zu (Go.frozen a) := fun P w => ⟨fun _ _ e => (by cases e; exact KC.refl _), fun _ _ e => (by cases e), .quiet fun _ => rfl⟩
theorem NB.push {w : World} {o : Obj} (_ : ∀ d ds, o ≠ Obj.deferred (some (d :: ds))) (_ : NB w) : NB { w with heap := w.heap.push o } := trivial
theorem KC.push {w : World} {o : Obj} (ho : ∀ d ds, o ≠ Obj.deferred (some (d :: ds))) : KC w { w with heap := w.heap.push o } := by
 intro r h d ds e
 simp only [Array.getElem?_push] at e
 split at e
 ·exact ho _ _ (xoi e)
 ·exact h _ _ e
theorem zu.newObj (o : Obj) (ho : ∀ d ds, o ≠ Obj.deferred (some (d :: ds))) : zu (Go.newObj o) := fun P w => ⟨fun _ _ e => (by cases e; exact KC.push ho), fun _ _ e => (by cases e), .quiet fun _ => rfl⟩
theorem zu.mark (m : Mark) : zu (Go.mark m) := fun P w => ⟨fun _ _ e => (by cases e; exact KC.refl _), fun _ _ e => (by cases e), .one fun _ => .inr ⟨⟨.mark m, false, true⟩, by simp, rfl⟩⟩
theorem zu.newVar (t : TypeId) (v : Value) : zu (Go.newVar t v) := by
 unfold Go.newVar Go.newRow
 exact (zu.newObj _ (fun _ _ e => by cases e)).bind fun _ => zu.pure _
theorem zu.underlying (t : TypeId) : zu (Go.underlying t) := by
 unfold Go.underlying
 refine zu.program fun P => ?_
 cases P.underlying t with
 |none => exact (q9.stuck _).qzr
 |some d => exact zu.pure _
theorem zu.elemOf (t : TypeId) : zu (Go.elemOf t) := by
 unfold Go.elemOf
 refine (zu.underlying t).bind fun d => ?_
 cases d <;> first | exact zu.pure _ | exact (q9.stuck _).qzr
theorem q9.runtimePanic (e : RuntimeError) : q9 (runtimePanic e : Sem α) := by
 unfold Go.runtimePanic
 refine q9.program fun p => ?_
 cases e <;> first | exact q9.goPanic _ | (refine q9.bind (zu.elemOf _) fun _ => ?_; refine q9.bind (zu.newVar _ _) fun _ => ?_; exact q9.goPanic _)
theorem q9.boundsPanic (k : IntKind) (x y : Int) (c : BoundsCode) : q9 (boundsPanic k x y c : Sem α) := by
 unfold Go.boundsPanic
 dsimp only
 split
 ·refine q9.bind ?_ fun _ => q9.runtimePanic _
  exact (zu.choose _).bind fun _ => zu.pure _
 ·exact q9.bind (zu.pure _) fun _ => q9.runtimePanic _
theorem SS.bind {s : Sem α} {s' : Sem β} {f : α → Sem γ} {f' : β → Sem δ} {Q : Rel → α → β → Prop} {R : Rel → γ → δ → Prop}
  (h : SS X ρ s s' Q) (k : ∀ ρ1 a a', ρ.le ρ1 → Q ρ1 a a' → SS X ρ1 (f a) (f' a') R) : SS X ρ (s >>= f) (s' >>= f') R := by
 refine ⟨fun w w' c w2 es hw hr => ?_, fun w w' x w2 hw hr => ?_, fun w w' hw => (h.3 w w' hw).bind fun a w1 e => ?_⟩
 case refine_3 =>
  obtain ⟨ρ1, a', w1', es1, h1, h2, h3, h4, h5, h6, h7⟩ := h.1 w w' a w1 #[] hw e
  exact (k ρ1 a a' h3.le h6).3 w1 w1' h2
 case refine_2 =>
  rw [Sem.run_bind] at hr
  cases hs : s.run X.P w with
  |halt y wx => rw [hs] at hr; cases hr; exact h.2 w w' _ _ hw hs
  |ok a w1 =>
   rw [hs] at hr
   obtain ⟨ρ1, a', w1', es1, h1, h2, h3, h4, h5, h6, h7⟩ := h.1 w w' a w1 #[] hw hs
   have := (k ρ1 a a' h3.le h6).2 w1 w1' x w2 h2 hr
   exact ⟨this.1, h7.trans this.2⟩
 rw [Sem.run_bind] at hr
 cases hs : s.run X.P w with
 |halt x wx => rw [hs] at hr; cases hr
 |ok a w1 =>
  rw [hs] at hr
  obtain ⟨ρ1, a', w1', es1, h1, h2, h3, h4, h5, h6, h7⟩ := h.1 w w' a w1 es hw hs
  obtain ⟨ρ2, c', w2', es2, k1, k2, k3, k4, k5, k6, k7⟩ := (k ρ1 a a' h3.le h6).1 w1 w1' c w2 (es ++ es1) h2 hr
  refine ⟨ρ2, c', w2', es1 ++ es2, ?_, k2, h3.trans k3 h4, xlt h4 k4, fun e he => ?_, k6, h7.trans k7⟩
  ·show (s'.bind f').runT X.P' w' es = _
   rw [Sem.runT_bind', h1]
   simp only []
   rw [k1, Array.append_assoc]
  ·rcases Array.mem_append.1 he with h' | h'
   ·exact (h5 e h').mono k3.le
   ·exact k5 e h'
theorem SS.ite {c : Prop} [Decidable c] {s t : Sem α} {s' t' : Sem β} {Q : Rel → α → β → Prop} (h : c → SS X ρ s s' Q) (k : ¬ c → SS X ρ t t' Q) : SS X ρ (if c then s else t) (if c then s' else t') Q := by
 by_cases hc : c
 ·rw [if_pos hc, if_pos hc]; exact h hc
 ·rw [if_neg hc, if_neg hc]; exact k hc
end
structure AR (ρ : Rel) (a a' : Addr) : Prop where
 block : ρ a.block a'.block
 off : a.off = a'.off
 spot : a.spot = a'.spot
theorem AR.add {ρ : Rel} {a a' : Addr} (h : AR ρ a a') (n : Nat) : AR ρ (a.add n) (a'.add n) := by
 unfold Addr.add
 split
 ·exact h
 ·exact ⟨h.block, by simp [h.off], rfl⟩
theorem AR.mono {ρ ρ' : Rel} {a a' : Addr} (h : AR ρ a a') (k : ρ.le ρ') : AR ρ' a a' := ⟨k _ _ h.block, h.off, h.spot⟩
theorem AR.ptr {F : FuncId → Prop} {ρ : Rel} {a a' : Addr} (h : AR ρ a a') : VR F ρ (.pointer (some a)) (.pointer (some a')) := by
 obtain ⟨b, o, s⟩ := a
 obtain ⟨b', o', s'⟩ := a'
 obtain ⟨h1, h2, h3⟩ := h
 simp only at h1 h2 h3
 subst h2; subst h3
 exact .ptr h1
theorem AR.slice {F : FuncId → Prop} {ρ : Rel} {a a' : Addr} (h : AR ρ a a') (n c : Nat) : VR F ρ (.slice (some a) n c) (.slice (some a') n c) := by
 obtain ⟨b, o, s⟩ := a
 obtain ⟨b', o', s'⟩ := a'
 obtain ⟨h1, h2, h3⟩ := h
 simp only at h1 h2 h3
 subst h2; subst h3
 exact .slice h1
section
variable {X : Cx} {ρ : Rel}
theorem qms {P : Program} {w w1 : World} {a : Addr} {v : Value} (hr : (load a).run P w = .ok v w1) (hv : ∀ at_ u, w.heap[a.block]? ≠ some (.view at_ u)) : w.cell? a = some v ∧ w1 = w := by
 unfold load at hr
 simp only [Sem.run] at hr
 cases hc : w.cell? a with
 |some x => rw [hc] at hr; simp only [Sem.run] at hr; cases hr; exact ⟨rfl, rfl⟩
 |none =>
  rw [hc] at hr
  simp only [World.farLoad] at hr
  cases hr
theorem WR.cell {w w' : World} (hw : WR X ρ w w') {a a' : Addr} (h : AR ρ a a') {v : Value} (hc : w.cell? a = some v) : ∃ v', w'.cell? a' = some v' ∧ VR X.F ρ v v' := by
 obtain ⟨o, o', h1, h2, h3⟩ := hw.heap h.block
 unfold World.cell? at hc ⊢
 rw [h1] at hc
 rw [h2]
 cases h3 with
 |cells hcs _ =>
  simp only at hc ⊢
  rw [← h.spot]
  split at hc
  ·cases hc
  ·rename_i hs
   rw [if_neg hs, ← h.off]
   exact hcs.qvw hc
 |_ => cases hc
theorem WR.noView {w w' : World} (hw : WR X ρ w w') {a b : Nat} (h : ρ a b) (at_ : Addr) (u : TypeId) : w.heap[a]? ≠ some (.view at_ u) := by
 obtain ⟨o, o', h1, h2, h3⟩ := hw.heap h
 rw [h1]
 intro e
 cases e
 cases h3
theorem SS.load {a a' : Addr} (h : AR ρ a a') : SS X ρ (load a) (load a') (fun ρ1 v v' => VR X.F ρ1 v v') := by
 refine ⟨fun w w' v w1 es hw hr => ?_, fun w w' x w1 hw hr => ?_, fun w w' hw => .one fun es => ?_⟩
 case refine_3 =>
  simp only [Go.load, Sem.runT]
  cases hc : w.cell? a with
  |some v => exact .inr ⟨_, by simp, rfl⟩
  |none =>
   obtain ⟨o, o', h1, h2, h3⟩ := hw.heap h.block
   simp only [World.farLoad, h1]
   cases h3 <;> exact .inl rfl
 case refine_2 =>
  unfold Go.load at hr
  simp only [Sem.run] at hr
  cases hc : w.cell? a with
  |some v => rw [hc] at hr; cases hr
  |none =>
   rw [hc] at hr
   obtain ⟨o, o', h1, h2, h3⟩ := hw.heap h.block
   simp only [World.farLoad, h1] at hr
   cases h3 <;> (simp only [World.noCell, h1] at hr; cases hr; exact ⟨trivial, KC.refl _⟩)
 obtain ⟨hc, rfl⟩ := qms hr (fun _ _ => hw.noView h.block _ _)
 obtain ⟨v', hc', hv⟩ := hw.cell h hc
 refine ⟨ρ, v', w', #[⟨.cell a', false, false⟩], ?_, hw, Eff.refl .., jy _, fun e he => ?_, hv, KC.refl _⟩
 ·show (Sem.load .plain a' .pure).runT X.P' w' es = _
  simp only [Sem.runT, hc']
  simp
  rfl
 ·simp at he; subst he
  exact ⟨rfl, _, h.block, by simp⟩
theorem heap_setCell (w : World) (a : Addr) (v : Value) (b : Nat) : (w.setCell a v).heap[b]? = if b = a.block then (w.heap[b]?).map (fun
   | .cells c elem frozen => .cells (if a.spot.isSome then c else c.setIfInBounds a.off v) elem frozen
   |o => o) else w.heap[b]? := by
 unfold World.setCell
 simp only [Array.getElem?_modify]
 by_cases hb : a.block = b
 ·subst hb; simp; rfl
 ·rw [if_neg hb, if_neg (fun e => hb e.symm)]
theorem WR.notFrozen {w w' : World} (hw : WR X ρ w w') {a a' : Addr} (h : AR ρ a a') {v : Value} (hc : w.cell? a = some v) (hf : w.frozen? a = false) : w'.frozen? a' = false ∧ ¬ X.Sh a.block := by
 obtain ⟨o, o', h1, h2, h3⟩ := hw.heap h.block
 unfold World.frozen? at hf ⊢
 unfold World.cell? at hc
 rw [h1] at hf hc
 rw [h2]
 cases h3 with
 | @cells c c' e z z' hcs hz =>
  obtain ⟨lo, hi⟩ := z
  simp only at hf hc
  refine ⟨?_, fun hs => ?_⟩
  ·rcases hz with rfl | rfl
   ·simp only; rw [← h.off]; exact hf
   ·simp
  ·rcases hw.sh _ hs with ⟨c2, e2, n2, e3, e4⟩ | ⟨_, _, e3⟩
   ·rw [h1] at e3
    cases e3
    split at hc
    ·cases hc
    ·have := (zx hc).1
     simp at hf
     omega
   ·rw [h1] at e3; cases e3
 |_ => cases hc
theorem qnf {P : Program} {w w1 : World} {a : Addr} {v : Value} {u : Unit} (hr : (store a v).run P w = .ok u w1) (hv : ∀ at_ u, w.heap[a.block]? ≠ some (.view at_ u)) :
  (∃ x, w.cell? a = some x) ∧ w.frozen? a = false ∧ w1 = w.setCell a v ∧ (∀ cs, v ≠ .agg cs) ∧ (∀ cs, v ≠ .tuple cs) := by
 unfold store at hr
 have key : (∀ cs, v ≠ .agg cs) ∧ (∀ cs, v ≠ .tuple cs) := by
  refine ⟨fun cs e => ?_, fun cs e => ?_⟩ <;> subst e <;> simp [Sem.run] at hr
 have hr' : (match w.cell? a with
  |some _ => if w.frozen? a then (.halt (.unsupported (.unsafePointer "a write to bytes that a string shares")) w : Result Unit) else (Sem.pure ()).run P (w.setCell a v)
  |none => match w.farStore P a v (Mode.plain == Mode.atomic) with
   | .ok (w, _) => (Sem.pure ()).run P w
   | .error h => .halt h w) = .ok u w1 := by
  cases v <;> first | exact hr | (simp [Sem.run] at hr)
 cases hc : w.cell? a with
 |some x =>
  rw [hc] at hr'
  simp only at hr'
  cases hf : w.frozen? a with
  |true => rw [hf] at hr'; simp at hr'
  |false =>
   rw [hf] at hr'
   simp [Sem.run] at hr'
   exact ⟨⟨x, rfl⟩, rfl, hr'.symm, key⟩
 |none =>
  rw [hc] at hr'
  simp only [World.farStore] at hr'
  cases hr'
theorem qlf {P : Program} {w : World} {a : Addr} {v x : Value} (hc : w.cell? a = some x) (hf : w.frozen? a = false) (h1 : ∀ cs, v ≠ .agg cs) (h2 : ∀ cs, v ≠ .tuple cs) (es : Array Event) :
  (store a v).runT P w es = (.ok () (w.setCell a v), es.push ⟨.cell a, true, false⟩) := by
 unfold store
 cases v <;> first | (exact absurd rfl (h1 _)) | (exact absurd rfl (h2 _)) | (simp [Sem.runT, hc, hf]; rfl)
theorem SS.store {a a' : Addr} {v v' : Value} (h : AR ρ a a') (hv : VR X.F ρ v v') : SS X ρ (store a v) (store a' v') (fun _ _ _ => True) := by
 refine ⟨fun w w' u w1 es hw hr => ?_, fun w w' x w1 hw hr => ?_, fun w w' hw => .one fun es => ?_⟩
 case refine_3 =>
  obtain ⟨o, o', h1, h2, h3⟩ := hw.heap h.block
  let st : Result Unit × Array Event := match w.cell? a with
   |some _ => if w.frozen? a then (.halt (.unsupported (.unsafePointer "a write to bytes that a string shares")) w, es) else (Sem.pure ()).runT X.P (w.setCell a v) (es.push ⟨.cell a, true, Mode.plain == Mode.atomic⟩)
   |none => match w.farStore X.P a v (Mode.plain == Mode.atomic) with
    | .ok (w, touched) => (Sem.pure ()).runT X.P w (es ++ touched.toArray.map (⟨.cell ·, true, Mode.plain == Mode.atomic⟩))
    | .error h => (.halt h w, es)
  have main : ∀ es0, es0 = st.2 → es0 = es ∨ ∃ e : Event, e.loc ≠ .output ∧ es0 = es.push e := by
   unfold st
   rintro _ rfl
   cases hc : w.cell? a with
   |some y =>
    simp only
    split
    ·exact .inl rfl
    ·exact .inr ⟨_, by simp, rfl⟩
   |none =>
    simp only [World.farStore, h1]
    cases h3 <;> exact .inl rfl
  cases v <;> first | exact main _ rfl | exact .inl rfl
 case refine_2 =>
  unfold Go.store at hr
  obtain ⟨o, o', h1, h2, h3⟩ := hw.heap h.block
  have main : ∀ (P : Program), (∀ cs, v ≠ .agg cs) → (∀ cs, v ≠ .tuple cs) → (match w.cell? a with
   |some _ => if w.frozen? a then (.halt (.unsupported (.unsafePointer "a write to bytes that a string shares")) w : Result Unit) else (Sem.pure ()).run P (w.setCell a v)
   |none => match w.farStore P a v (Mode.plain == Mode.atomic) with
    | .ok (w, _) => (Sem.pure ()).run P w
    | .error h => .halt h w) = .halt x w1 → qnu x ∧ KC w w1 := by
   intro P _ _ e
   cases hc : w.cell? a with
   |some y =>
    rw [hc] at e
    simp only at e
    split at e
    ·cases e; exact ⟨trivial, KC.refl _⟩
    ·cases e
   |none =>
    rw [hc] at e
    simp only [World.farStore, h1] at e
    cases h3 <;> (simp only [World.noCell, h1] at e; cases e; exact ⟨trivial, KC.refl _⟩)
  cases v <;> first | (exact main _ (fun _ e => by cases e) (fun _ e => by cases e) hr) | (simp [Sem.run] at hr; obtain ⟨rfl, rfl⟩ := hr; exact ⟨trivial, KC.refl _⟩)
 obtain ⟨⟨x, hc⟩, hf, rfl, n1, n2⟩ := qnf hr (fun _ _ => hw.noView h.block _ _)
 obtain ⟨x', hc', _⟩ := hw.cell h hc
 obtain ⟨hf', hns⟩ := hw.notFrozen h hc hf
 have n1' : ∀ cs, v' ≠ .agg cs := fun cs e => by subst e; cases hv; exact n1 _ rfl
 have n2' : ∀ cs, v' ≠ .tuple cs := fun cs e => by subst e; cases hv; exact n2 _ rfl
 refine ⟨ρ, (), w'.setCell a' v', #[⟨.cell a', true, false⟩], ?_, ?_, ?_, ?_, fun e he => ?_, trivial, fun r n d ds e => ?_⟩
 ·rw [qlf hc' hf' n1' n2']; simp
 ·refine ⟨hw.fn, hw.inj, fun {b b'} hb => ?_, hw.tape, fun b hs => ?_⟩
  ·obtain ⟨o, o', h1, h2, h3⟩ := hw.heap hb
   rw [heap_setCell, heap_setCell, h1, h2]
   by_cases e : b = a.block
   ·subst e
    have e' : b' = a'.block := hw.fn hb h.block
    rw [if_pos rfl, if_pos e']
    refine ⟨_, _, rfl, rfl, ?_⟩
    cases h3 with
    |cells hcs hz =>
     refine .cells ?_ hz
     rw [← h.spot, ← h.off]
     split
     ·exact hcs
     ·exact hcs.qtf _ hv
    |map r => exact .map r
    |stringIter s p => exact .stringIter s p
    |qaq a b c => exact .qaq a b c
    |mapIter r => exact .mapIter r
    |loop a b c d e g => exact .loop a b c d e g
    |number l r => exact .number l r
    |xw => exact .xw
    |deferred => exact .deferred
   ·have e' : b' ≠ a'.block := fun e' => e (hw.inj hb (e' ▸ h.block))
    rw [if_neg e, if_neg e']
    exact ⟨o, o', rfl, rfl, h3⟩
  ·have : b ≠ a.block := fun e => hns (e ▸ hs)
   rw [heap_setCell, if_neg this]
   exact hw.sh b hs
 ·refine ⟨ρ.le_refl, by simp [World.setCell], fun b hb hs => ?_, fun _ _ h => .inl h, ⟨0, rfl⟩, rfl, rfl, rfl, fun _ h1 h2 => absurd h1 (Nat.not_le.2 (by simpa [World.setCell] using h2))⟩
  rw [heap_setCell, if_neg]
  intro e
  exact hns (hs a.block (e ▸ h.block))
 ·simp [World.setCell]
 ·simp at he; subst he
  exact ⟨rfl, _, h.block, fun _ => hns⟩
 ·rw [heap_setCell] at e
  split at e
  ·obtain ⟨o, ho, e⟩ := Option.map_eq_some_iff.1 e
   cases o <;> simp at e
   subst e
   exact n _ _ ho
  ·exact n _ _ e
def qiy (ρ : Rel) (a b : Nat) : Rel := fun x y => ρ x y ∨ (x = a ∧ y = b)
theorem qa7 (ρ : Rel) (a b : Nat) : ρ.le (qiy ρ a b) := fun _ _ h => .inl h
theorem WR.bound {w w' : World} (hw : WR X ρ w w') {a b : Nat} (h : ρ a b) : a < w.heap.size ∧ b < w'.heap.size := by
 obtain ⟨o, o', h1, h2, _⟩ := hw.heap h
 exact ⟨(zx h1).1, (zx h2).1⟩
theorem SS.newObj {o o' : Obj} (ho : ∀ r r', OR X (qiy ρ r r') o o') : SS X ρ (newObj o) (newObj o') (fun ρ1 r r' => ρ1 r r') := by
 refine ⟨fun w w' r w1 es hw hr => ?_, fun w w' x w1 hw hr => (by cases hr), fun w w' _ => .quiet fun _ => rfl⟩
 have hr' : Result.ok w.heap.size { w with heap := w.heap.push o } = Result.ok r w1 := hr
 cases hr'
 refine ⟨qiy ρ w.heap.size w'.heap.size, w'.heap.size, { w' with heap := w'.heap.push o' }, #[], by rw [Array.append_empty]; rfl, ?_, ?_, by simp, by simp, .inr ⟨rfl, rfl⟩, KC.push fun d ds e => by subst e; have := ho 0 0; cases this⟩
 ·refine ⟨fun {a b b'} h1 h2 => ?_, fun {a a' b} h1 h2 => ?_, fun {a b} h => ?_, hw.tape, fun a hs => ?_⟩
  ·rcases h1 with h1 | ⟨e1, e2⟩ <;> rcases h2 with h2 | ⟨e3, e4⟩
   ·exact hw.fn h1 h2
   ·have := (hw.bound h1).1; omega
   ·have := (hw.bound h2).1; omega
   ·omega
  ·rcases h1 with h1 | ⟨e1, e2⟩ <;> rcases h2 with h2 | ⟨e3, e4⟩
   ·exact hw.inj h1 h2
   ·have := (hw.bound h1).2; omega
   ·have := (hw.bound h2).2; omega
   ·omega
  ·rcases h with h | ⟨e1, e2⟩
   ·obtain ⟨x, x', h1, h2, h3⟩ := hw.heap h
    have b := hw.bound h
    refine ⟨x, x', ?_, ?_, h3.mono (qa7 _ _ _)⟩
    ·simp only [Array.getElem?_push]; rw [if_neg (by omega)]; exact h1
    ·simp only [Array.getElem?_push]; rw [if_neg (by omega)]; exact h2
   ·subst e1; subst e2
    exact ⟨o, o', by simp, by simp, ho _ _⟩
  ·have lt : a < w.heap.size := by
    rcases hw.sh a hs with ⟨_, _, _, h, _⟩ | ⟨_, _, h⟩ <;> exact (zx h).1
   simp only [Array.getElem?_push]
   rw [if_neg (by omega)]
   exact hw.sh a hs
 ·refine ⟨qa7 _ _ _, by simp, fun b hb _ => ?_, fun a b h => ?_, ⟨0, rfl⟩, rfl, rfl, rfl, fun b h1 h2 => ⟨w.heap.size, .inr ⟨rfl, by simp at h2; omega⟩⟩⟩
  ·simp only [Array.getElem?_push]; rw [if_neg (by omega)]
  ·rcases h with h | ⟨e1, e2⟩
   ·exact .inl h
   ·exact .inr ⟨by omega, by omega⟩
theorem SS.getObj {r r' : Nat} (h : ρ r r') : SS X ρ (getObj r) (getObj r') (fun ρ1 o o' => OR X ρ1 o o' ∧ (X.Sh r → ∃ es k, o = .map es k) ∧ ∀ c e z, o ≠ .cells c e z) := by
 refine ⟨fun w w' o w1 es hw hr => ?_, fun w w' y w1 hw hr => ?_, fun w w' hw => .one fun es => ?_⟩
 case refine_3 =>
  obtain ⟨x, x', h1, h2, h3⟩ := hw.heap h
  simp only [Go.getObj, Sem.runT, h1]
  cases h3 <;> first | exact .inl rfl | exact .inr ⟨_, by simp, rfl⟩
 case refine_2 =>
  obtain ⟨x, x', h1, h2, h3⟩ := hw.heap h
  simp only [Go.getObj, Sem.run, h1] at hr
  cases h3 <;> simp only [Sem.run] at hr <;> cases hr <;> exact ⟨trivial, KC.refl _⟩
 obtain ⟨x, x', h1, h2, h3⟩ := hw.heap h
 have hsh : X.Sh r → (∃ c e z, x = .cells c e z) ∨ ∃ es k, x = .map es k := fun hs => by
  rcases hw.sh r hs with ⟨c, e, n, h, _⟩ | ⟨es, k, h⟩
  ·rw [h1] at h; cases h; exact .inl ⟨_, _, _, rfl⟩
  ·rw [h1] at h; cases h; exact .inr ⟨_, _, rfl⟩
 have main : (∀ c e z, x ≠ .cells c e z) ∧ o = x ∧ w1 = w := by
  simp only [Go.getObj, Sem.run, h1] at hr
  cases h3 <;> simp only [Sem.run] at hr <;> cases hr <;> exact ⟨by simp, rfl, rfl⟩
 obtain ⟨n1, rfl, rfl⟩ := main
 have q37 : x'.isChan = false := by cases h3 <;> rfl
 refine ⟨ρ, x', w', #[⟨.obj r', false, false⟩], ?_, hw, Eff.refl .., jy _, fun e he => ?_, ⟨h3, fun hs => ?_, n1⟩, KC.refl _⟩
 ·show (Sem.getObj r' .pure).runT X.P' w' es = _
  simp only [Sem.runT, h2]
  cases h3 <;> first | exact absurd rfl (n1 _ _ _) | (simp only [Obj.isChan, Sem.runT, Array.push_eq_append])
 ·simp at he; subst he
  exact ⟨rfl, _, h, by simp⟩
 ·rcases hsh hs with ⟨_, _, _, e⟩ | e
  ·exact absurd e (n1 _ _ _)
  ·exact e
theorem SS.setObj {r r' : Nat} {o o' : Obj} (h : ρ r r') (ho : OR X ρ o o') (hs : ¬ X.Sh r) : SS X ρ (setObj r o) (setObj r' o') (fun _ _ _ => True) := by
 refine ⟨fun w w' u w1 es hw hr => ?_, fun w w' y w1 hw hr => ?_, fun w w' hw => .one fun es => ?_⟩
 case refine_3 =>
  obtain ⟨x, x', h1, h2, h3⟩ := hw.heap h
  simp only [Go.setObj, Sem.runT, h1]
  cases h3 <;> first | exact .inl rfl | exact .inr ⟨_, by simp, rfl⟩
 case refine_2 =>
  obtain ⟨x, x', h1, h2, h3⟩ := hw.heap h
  simp only [Go.setObj, Sem.run, h1] at hr
  cases h3 <;> simp only [Sem.run] at hr <;> cases hr <;> exact ⟨trivial, KC.refl _⟩
 obtain ⟨x, x', h1, h2, h3⟩ := hw.heap h
 have main : (∀ c e z, x ≠ .cells c e z) ∧ w1 = { w with heap := w.heap.setIfInBounds r o } := by
  simp only [Go.setObj, Sem.run, h1] at hr
  cases h3 <;> simp only [Sem.run] at hr <;> cases hr <;> exact ⟨by simp, rfl⟩
 obtain ⟨n1, rfl⟩ := main
 have q37 : o'.isChan = false := by cases ho <;> rfl
 refine ⟨ρ, (), { w' with heap := w'.heap.setIfInBounds r' o' }, #[⟨.obj r', true, false⟩], ?_, ?_, ?_, ?_, fun e he => ?_, trivial, fun b n d ds e => ?_⟩
 ·show (Sem.setObj r' o' (.pure ())).runT X.P' w' es = _
  simp only [Sem.runT, h2]
  cases h3 <;> first | exact absurd rfl (n1 _ _ _) | (simp only [q37, Sem.runT, Array.push_eq_append])
 ·refine ⟨hw.fn, hw.inj, fun {a b} hab => ?_, hw.tape, fun b hs' => ?_⟩
  ·obtain ⟨y, y', k1, k2, k3⟩ := hw.heap hab
   by_cases e : a = r
   ·subst e
    have e' : b = r' := hw.fn hab h
    subst e'
    refine ⟨o, o', ?_, ?_, ho⟩
    ·simp [(hw.bound hab).1]
    ·simp [(hw.bound hab).2]
   ·have e' : b ≠ r' := fun e' => e (hw.inj hab (e' ▸ h))
    refine ⟨y, y', ?_, ?_, k3⟩
    ·simp only; rw [xne (Ne.symm e)]; exact k1
    ·simp only; rw [xne (Ne.symm e')]; exact k2
  ·have : b ≠ r := fun e => hs (e ▸ hs')
   simp only
   rw [xne (Ne.symm this)]
   exact hw.sh b hs'
 ·refine ⟨ρ.le_refl, by simp, fun b hb hs' => ?_, fun _ _ h => .inl h, ⟨0, rfl⟩, rfl, rfl, rfl, fun _ h1 h2 => absurd h1 (Nat.not_le.2 (by simpa using h2))⟩
  have : b ≠ r' := fun e => hs (hs' r (e ▸ h))
  simp only
  rw [xne (Ne.symm this)]
 ·simp
 ·simp at he; subst he
  exact ⟨rfl, _, h, fun _ => hs⟩
 ·simp only [Array.getElem?_setIfInBounds] at e
  split at e
  ·split at e
   ·cases xoi e; cases ho
   ·cases e
  ·exact n _ _ e
theorem SS.choose (q : Question) : SS X ρ (choose q) (choose q) (fun _ n n' => n = n') := by
 refine ⟨fun w w' n w1 es hw hr => ?_, fun w w' x w1 hw hr => (zu.choose q _ _).2 _ _ hr, fun w w' _ => (zu.choose q _ _).3⟩
 have hr' : (if q.forced then Result.ok 0 w else .ok (q.cut (w.tape w.drawn q)) { w with drawn := w.drawn + 1 }) = .ok n w1 := hr
 have ht := hw.tape 0 q
 simp only [Nat.add_zero] at ht
 by_cases hq : q.forced = true
 ·rw [if_pos hq] at hr'; cases hr'
  exact ⟨ρ, 0, w', #[], by simp only [Go.choose, Sem.runT, hq, if_true, Array.append_empty], hw, Eff.refl .., jy _, by simp, rfl, KC.refl _⟩
 ·rw [if_neg hq] at hr'; cases hr'
  refine ⟨ρ, q.cut (w'.tape w'.drawn q), { w' with drawn := w'.drawn + 1 }, #[], by simp only [Go.choose, Sem.runT, hq, if_false, Array.append_empty, Bool.false_eq_true], ?_, ?_, jy _, by simp, by rw [ht], KC.refl _⟩
  ·refine ⟨hw.fn, hw.inj, hw.heap, fun i q' => ?_, hw.sh⟩
   have := hw.tape (i + 1) q'
   simpa [Nat.add_comm, Nat.add_left_comm, Nat.add_assoc] using this
  ·exact ⟨ρ.le_refl, jy _, fun _ _ _ => rfl, fun _ _ h => .inl h, ⟨1, rfl⟩, rfl, rfl, rfl, fun _ h1 h2 => absurd h1 (Nat.not_le.2 h2)⟩
theorem SS.qxw : SS X ρ (mark .noRoom) (mark .noRoom) (fun _ _ _ => True) := by
 refine ⟨fun w w' n w1 es hw hr => ?_, fun w w' x w1 hw hr => (by cases hr), fun w w' _ => (zu.mark _ _ _).3⟩
 have hr' : Result.ok () w = .ok n w1 := hr
 cases hr'
 exact ⟨ρ, (), w', #[⟨.mark .noRoom, false, true⟩], by simp only [Go.mark, Sem.runT, Array.push_eq_append], hw, Eff.refl .., jy _, by simp [qhn], trivial, KC.refl _⟩
end
def qc9 (P : Program) (Fb : FuncId → Bool) (t : TypeId) : Bool :=
 match P.info? t with
 |some i => match i.zero with
  |some z => flat Fb z
  |none => true
 |none => true
structure Cx.Ok (X : Cx) (Fb : FuncId → Bool) : Prop where
 tables : X.P.toTables = X.P'.toTables
 fb : ∀ f, Fb f = true → X.F f
 globals : X.P.globals.size = 0
 boc : ∀ d e o, byteOfCell X.P' d e o = byteOfCell X.P d e o
 cob : ∀ d e o, cellOfByte X.P' d e o = cellOfByte X.P d e o
 calls : ∀ f, X.F f → ∃ fn fn', X.P.funcs[f]? = some fn ∧ X.P'.funcs[f]? = some fn' ∧ fn.body.isNone = false ∧ fn'.body.isNone = false ∧ (fn.name == "runtime.NumGoroutine") = false ∧ (fn'.name == "runtime.NumGoroutine") = false
section
variable {X : Cx} {Fb : FuncId → Bool} {ρ : Rel} {α β : Type}
theorem Cx.Ok.info (H : X.Ok Fb) (t : TypeId) : X.P'.info? t = X.P.info? t := by rw [H.tables]
theorem Cx.Ok.und (H : X.Ok Fb) (t : TypeId) : X.P'.underlying t = X.P.underlying t := by unfold Program.underlying; rw [H.tables]
theorem SS.program {f : Program → Sem α} {g : Program → Sem β} {Q : Rel → α → β → Prop} (h : SS X ρ (f X.P) (g X.P') Q) : SS X ρ (program >>= f) (program >>= g) Q := by
 exact ⟨fun w w' a w1 es hw hr => h.1 w w' a w1 es hw hr, fun w w' x w1 hw hr => h.2 w w' x w1 hw hr, fun w w' hw => h.3 w w' hw⟩
theorem SS.halt {h : Halt} {s' : Sem β} {Q : Rel → α → β → Prop} (m : qnu h := by trivial) : SS X ρ (Sem.halt h : Sem α) s' Q := SS.dies (q9.halt h m)
theorem SS.typeInfo (H : X.Ok Fb) (t : TypeId) : SS X ρ (typeInfo t) (typeInfo t) (fun _ i i' => i = i' ∧ X.P.info? t = some i) := by
 unfold Go.typeInfo
 refine SS.program ?_
 rw [H.info]
 cases h : X.P.info? t with
 |none => exact SS.halt
 |some i => exact SS.pure ⟨rfl, rfl⟩
theorem SS.underlying (H : X.Ok Fb) (t : TypeId) : SS X ρ (underlying t) (underlying t) (fun _ d d' => d = d' ∧ X.P.underlying t = some d) := by
 unfold Go.underlying
 refine SS.program ?_
 rw [H.und]
 cases h : X.P.underlying t with
 |none => exact SS.halt
 |some i => exact SS.pure ⟨rfl, rfl⟩
theorem SS.sizeOf (H : X.Ok Fb) (t : TypeId) : SS X ρ (sizeOf t) (sizeOf t) (fun _ n n' => n = n' ∧ n = X.P.cellsOf t) := by
 unfold Go.sizeOf
 refine (SS.typeInfo H t).bind fun ρ1 i i' _ ⟨e, h⟩ => ?_
 subst e
 exact SS.pure ⟨rfl, by unfold Program.cellsOf; rw [h]; rfl⟩
theorem SS.isAgg (H : X.Ok Fb) (t : TypeId) : SS X ρ (isAgg t) (isAgg t) (fun _ b b' => b = b') := by
 unfold Go.isAgg
 refine (SS.underlying H t).bind fun ρ1 i i' _ ⟨e, h⟩ => ?_
 subst e
 cases i <;> exact SS.pure rfl
theorem SS.zeroValue (H : X.Ok Fb) (t : TypeId) (hz : qc9 X.P Fb t = true) : SS X ρ (zeroValue t) (zeroValue t) (fun ρ1 v v' => VR X.F ρ1 v v') := by
 unfold Go.zeroValue
 refine (SS.typeInfo H t).bind fun ρ1 i i' _ ⟨e, h⟩ => ?_
 subst e
 unfold qc9 at hz
 rw [h] at hz
 simp only at hz
 cases hi : i.zero with
 |none => exact SS.halt
 |some z =>
  rw [hi] at hz
  exact SS.pure (qdz H.fb z hz)
theorem SS.asIntOf {v v' : Value} (h : VR X.F ρ v v') : SS X ρ (asIntOf v) (asIntOf v') (fun _ p p' => p = p') := by
 cases h <;> first | exact SS.pure rfl | exact SS.halt
theorem SS.asInt {v v' : Value} (h : VR X.F ρ v v') : SS X ρ (asInt v) (asInt v') (fun _ p p' => p = p') := by
 unfold Go.asInt
 exact (SS.asIntOf h).bind fun _ a a' _ e => SS.pure (by rw [e])
theorem SS.asBool {v v' : Value} (h : VR X.F ρ v v') : SS X ρ (asBool v) (asBool v') (fun _ p p' => p = p') := by
 cases h <;> first | exact SS.pure rfl | exact SS.halt
theorem SS.asAgg {v v' : Value} (h : VR X.F ρ v v') : SS X ρ (asAgg v) (asAgg v') (fun ρ1 p p' => jw X.F ρ1 p.toList p'.toList) := by
 cases h <;> first | exact SS.pure ‹_› | exact SS.halt
theorem SS.sureAddr {v v' : Value} (h : VR X.F ρ v v') : SS X ρ (Instr.sureAddr v) (Instr.sureAddr v') (fun ρ1 a a' => AR ρ1 a a') := by
 cases h <;> first | exact SS.pure ⟨‹_›, rfl, rfl⟩ | exact SS.halt
theorem SS.asAddr {v v' : Value} (h : VR X.F ρ v v') : SS X ρ (asAddr v) (asAddr v') (fun ρ1 a a' => AR ρ1 a a') := by
 cases h <;> first | exact SS.pure ⟨‹_›, rfl, rfl⟩ | exact SS.halt | exact SS.dies (q9.runtimePanic (α := Addr) .nilDeref)
theorem SS.loadCellsFrom (n : Nat) : ∀ {ρ : Rel} {a a' : Addr} (_ : AR ρ a a') (i : Nat) {acc acc' : Array Value}, jw X.F ρ acc.toList acc'.toList →
  SS X ρ (loadCellsFrom a i n acc) (loadCellsFrom a' i n acc') (fun ρ1 p p' => jw X.F ρ1 p.toList p'.toList) := by
 induction n with
 |zero => intro ρ a a' h i acc acc' ha; exact SS.pure ha
 |succ n ih =>
  intro ρ a a' h i acc acc' ha
  unfold Go.loadCellsFrom
  refine (SS.load (h.add i)).bind fun ρ1 v v' le hv => ?_
  exact ih (h.mono le) (i + 1) ((ha.mono le).q8s hv)
theorem SS.loadCells {a a' : Addr} (h : AR ρ a a') (n : Nat) : SS X ρ (loadCells a n) (loadCells a' n) (fun ρ1 p p' => jw X.F ρ1 p.toList p'.toList) :=
 SS.loadCellsFrom n h 0 .nil
theorem SS.storeCells : ∀ {vs vs' : List Value} {ρ : Rel} {a a' : Addr} (_ : AR ρ a a') (i : Nat), jw X.F ρ vs vs' → SS X ρ (storeCells a vs i) (storeCells a' vs' i) (fun _ _ _ => True)
 | [], vs', ρ, a, a', h, i, hv => by cases hv; exact SS.pure trivial
 |v :: vs, vs', ρ, a, a', h, i, hv => by
  cases hv with
  |cons h1 h2 =>
   unfold Go.storeCells
   refine (SS.store (h.add i) h1).bind fun ρ1 _ _ le _ => ?_
   exact SS.storeCells (h.mono le) (i + 1) (h2.mono le)
theorem SS.loadVar (H : X.Ok Fb) (t : TypeId) {a a' : Addr} (h : AR ρ a a') : SS X ρ (loadVar t a) (loadVar t a') (fun ρ1 v v' => VR X.F ρ1 v v') := by
 unfold Go.loadVar
 refine (SS.isAgg H t).bind fun ρ1 b b' le e => ?_
 subst e
 refine SS.ite (fun _ => ?_) (fun _ => ?_)
 ·refine (SS.sizeOf H t).bind fun ρ2 n n' vg ⟨e, _⟩ => ?_
  subst e
  exact (SS.loadCells ((h.mono le).mono vg) n).bind fun ρ3 c c' _ hc => SS.pure (.agg hc)
 ·exact SS.load (h.mono le)
theorem SS.storeVar (H : X.Ok Fb) (t : TypeId) {a a' : Addr} {v v' : Value} (h : AR ρ a a') (hv : VR X.F ρ v v') : SS X ρ (storeVar t a v) (storeVar t a' v') (fun _ _ _ => True) := by
 unfold Go.storeVar
 refine (SS.sizeOf H t).bind fun ρ1 n n' le ⟨e, _⟩ => ?_
 subst e
 dsimp only
 rw [show v'.cells.size = v.cells.size from hv.cells.size.symm]
 refine SS.ite (fun _ => ?_) (fun _ => ?_)
 ·exact SS.dies (q9.ku (q9.stuck _))
 ·exact SS.storeCells (h.mono le) 0 (hv.cells.mono le)
theorem SS.newRow {c c' : Array Value} (e : TypeId) (h : jw X.F ρ c.toList c'.toList) : SS X ρ (newRow e c) (newRow e c') (fun ρ1 a a' => AR ρ1 a a') := by
 unfold Go.newRow
 refine (SS.newObj (fun r r' => OR.cells (h.mono (qa7 ρ r r')) (.inl rfl))).bind fun ρ1 r r' _ hr => ?_
 exact SS.pure ⟨hr, rfl, rfl⟩
theorem SS.newVar (t : TypeId) {v v' : Value} (h : VR X.F ρ v v') : SS X ρ (newVar t v) (newVar t v') (fun ρ1 a a' => AR ρ1 a a') := SS.newRow t h.cells
theorem SS.part (H : X.Ok Fb) (t : TypeId) {cs cs' : Array Value} (off : Nat) (h : jw X.F ρ cs.toList cs'.toList) : SS X ρ (part t cs off) (part t cs' off) (fun ρ1 v v' => VR X.F ρ1 v v') := by
 unfold Go.part
 refine (SS.isAgg H t).bind fun ρ1 b b' le e => ?_
 subst e
 refine SS.ite (fun _ => ?_) (fun _ => ?_)
 ·refine (SS.sizeOf H t).bind fun ρ2 n n' vg ⟨e, _⟩ => ?_
  subst e
  exact SS.pure (.agg (((h.mono le).mono vg).qvv _ _))
 ·cases hc : cs[off]? with
  |none => exact SS.halt
  |some v =>
   obtain ⟨v', h1, h2⟩ := (h.mono le).qvw hc
   rw [h1]
   exact SS.pure h2
theorem SS.qhw {γ : Type} (l : List γ) {ρ : Rel} {Q : Rel → α → β → Prop} (qm : ∀ ρ1 ρ2 a a', ρ1.le ρ2 → Q ρ1 a a' → Q ρ2 a a') {f : γ → α → Sem (ForInStep α)} {f' : γ → β → Sem (ForInStep β)} {a : α} {a' : β} (h0 : Q ρ a a')
  (h : ∀ x ∈ l, ∀ ρ1 b b', ρ.le ρ1 → Q ρ1 b b' → SS X ρ1 (f x b) (f' x b') (fun ρ2 s s' => (∃ c c', s = .yield c ∧ s' = .yield c' ∧ Q ρ2 c c') ∨ (∃ c c', s = .done c ∧ s' = .done c' ∧ Q ρ2 c c'))) :
  SS X ρ (forIn l a f) (forIn l a' f') (fun ρ1 b b' => Q ρ1 b b') := by
 induction l generalizing ρ a a' with
 |nil => exact SS.pure h0
 |cons x l ih =>
  rw [List.forIn_cons, List.forIn_cons]
  refine (h x (by simp) ρ a a' ρ.le_refl h0).bind fun ρ1 s s' le hs => ?_
  rcases hs with ⟨c, c', rfl, rfl, hq⟩ | ⟨c, c', rfl, rfl, hq⟩
  ·exact ih hq fun y hy ρ2 b b' vg hb => h y (by simp [hy]) ρ2 b b' (Rel.le_trans le vg) hb
  ·exact SS.pure hq
theorem SS.ql0 {γ : Type} (l : List γ) {ρ : Rel} {f f' : γ → PUnit → Sem (ForInStep PUnit)} {a a' : PUnit}
  (h : ∀ x ∈ l, ∀ ρ1, ρ.le ρ1 → SS X ρ1 (f x ⟨⟩) (f' x ⟨⟩) (fun _ s s' => s = .yield ⟨⟩ ∧ s' = .yield ⟨⟩)) : SS X ρ (forIn l a f) (forIn l a' f') (fun _ _ _ => True) :=
 SS.qhw l (Q := fun _ _ _ => True) (fun _ _ _ _ _ _ => trivial) trivial fun x hx ρ1 b b' le _ =>
  (h x hx ρ1 le).mono fun _ s s' _ ⟨e, e'⟩ => .inl ⟨⟨⟩, ⟨⟩, e, e', trivial⟩
theorem SS.checkKey (H : X.Ok Fb) (b : Bool) : ∀ (n : Nat) (t : TypeId) {ρ : Rel} {v v' : Value}, VR X.F ρ v v' → SS X ρ (Instr.checkKey b n t v) (Instr.checkKey b n t v') (fun _ _ _ => True)
 |0, t, ρ, v, v', h => SS.dies (q9.unsupported _)
 |n + 1, t, ρ, v, v', h => by
  unfold Instr.checkKey
  refine (SS.underlying H t).bind fun ρ1 d d' le ⟨e, _⟩ => ?_
  subst e
  cases d <;> cases h <;> first | exact SS.pure trivial | exact SS.halt | skip
  ·rename_i len elem _ _ cs cs' hcs
   simp only [Std.Legacy.Range.forIn_eq_forIn_range']
   refine SS.bind (Q := fun _ _ _ => True) (SS.ql0 _ fun x hx ρ2 vg => ?_) fun _ _ _ _ _ => SS.pure trivial
   refine (SS.sizeOf H elem).bind fun ρ3 m m' le3 ⟨e, _⟩ => ?_
   subst e
   refine (SS.part H _ _ (((hcs.mono le).mono vg).mono le3)).bind fun ρ4 y y' le4 hy => ?_
   refine (SS.checkKey H b n _ hy).bind fun _ _ _ _ _ => SS.pure ⟨rfl, rfl⟩
  ·rename_i fields _ _ cs cs' hcs
   simp only
   rw [← Array.forIn_toList, ← Array.forIn_toList]
   refine SS.bind (Q := fun _ _ _ => True) (SS.ql0 _ fun x hx ρ2 vg => ?_) fun _ _ _ _ _ => SS.pure trivial
   refine SS.ite (fun _ => ?_) (fun _ => SS.pure ⟨rfl, rfl⟩)
   refine (SS.part H _ _ ((hcs.mono le).mono vg)).bind fun ρ3 y y' le3 hy => ?_
   refine (SS.checkKey H b n _ hy).bind fun _ _ _ _ _ => SS.pure ⟨rfl, rfl⟩
theorem AR.of {b b' o : Nat} {s : Option Nat} (h : ρ b b') : AR ρ ⟨b, o, s⟩ ⟨b', o, s⟩ := ⟨h, rfl, rfl⟩
theorem WR.shape {w w' : World} (hw : WR X ρ w w') {r r' : Nat} (h : ρ r r') : w'.shape? r' = w.shape? r := by
 obtain ⟨o, o', h1, h2, h3⟩ := hw.heap h
 unfold World.shape?
 rw [h1, h2]
 cases h3 with
 |cells hcs _ => simp only [hcs.size]
 |_ => rfl
theorem SS.shape {r r' : Nat} (h : ρ r r') : SS X ρ (shape r) (shape r') (fun _ s s' => s = s') := by
 refine ⟨fun w w' s w1 es hw hr => ?_, fun w w' x w1 hw hr => (by cases hr), fun w w' _ => .quiet fun _ => rfl⟩
 have hr' : Result.ok (w.shape? r) w = .ok s w1 := hr
 cases hr'
 refine ⟨ρ, w'.shape? r', w', #[], by rw [Array.append_empty]; rfl, hw, Eff.refl .., jy _, by simp, (hw.shape h).symm, KC.refl _⟩
def OAR (ρ : Rel) (b : Bool) (r r' : Option (Addr × Bool)) : Prop := (r = none ∧ r' = none) ∨ (b = true ∧ ∃ a a' l, r = some (a, l) ∧ r' = some (a', l) ∧ AR ρ a a')
theorem SS.numberAt {r r' : Nat} (h : ρ r r') : SS X ρ (numberAt r) (numberAt r') (fun ρ1 q q' => OAR ρ1 true q q') := by
 unfold Go.numberAt
 refine (SS.shape h).bind fun ρ1 s s' le e => ?_
 subst e
 refine SS.ite (fun _ => SS.pure (.inl ⟨rfl, rfl⟩)) (fun _ => ?_)
 refine (SS.getObj (le _ _ h)).bind fun ρ2 o o' vg ⟨ho, _⟩ => ?_
 cases ho with
 |number l r => exact SS.pure (.inr ⟨rfl, _, _, _, rfl, rfl, ⟨r, rfl, rfl⟩⟩)
 |_ => exact SS.pure (.inl ⟨rfl, rfl⟩)
theorem SS.viewAt {r r' : Nat} (h : ρ r r') : SS X ρ (viewAt r) (viewAt r') (fun _ q q' => q = none ∧ q' = none) := by
 unfold Go.viewAt
 refine (SS.shape h).bind fun ρ1 s s' le e => ?_
 subst e
 refine SS.ite (fun _ => SS.pure ⟨rfl, rfl⟩) (fun _ => ?_)
 refine (SS.getObj (le _ _ h)).bind fun ρ2 o o' vg ⟨ho, _⟩ => ?_
 cases ho <;> exact SS.pure ⟨rfl, rfl⟩
theorem SS.behindNumber {a a' : Addr} (h : AR ρ a a') : SS X ρ (behindNumber a) (behindNumber a') (fun ρ1 p p' => AR ρ1 p.1 p'.1 ∧ p.2 = p'.2) := by
 unfold Go.behindNumber
 refine (SS.numberAt h.block).bind fun ρ1 q q' le hq => ?_
 rcases hq with ⟨rfl, rfl⟩ | ⟨_, b, b', l, rfl, rfl, hb⟩
 ·exact SS.pure ⟨h.mono le, rfl⟩
 ·exact SS.pure ⟨hb, rfl⟩
end
def qfz (P P' : Program) : Nat → TypeId → Bool
 |0, _ => false
 |d + 1, t => match P.underlying t with
  |some .bool => true
  |some (.int _) => match P.info? t with
   |some i => !(i.desc matches .named "sync.copyChecker" _)
   |none => false
  |some .string => true
  |some (.struct fs) => !(P.stoodInHeld t) && !(P'.stoodInHeld t) && fs.toList.all fun f => f.name == "_" || qfz P P' d f.type
  |some (.array _ e) => qfz P P' d e
  |_ => false
section
variable {X : Cx} {Fb : FuncId → Bool} {ρ : Rel} {α β : Type}
theorem SS.q5k (H : X.Ok Fb) {t : TypeId} {i : TypeInfo} (hi : X.P.info? t = some i) (hn : (i.desc matches .named "sync.copyChecker" _) = false) {a b a' b' : Addr} (ha : AR ρ a a') (hb : AR ρ b b') {Q : Rel → Bool → Bool → Prop} :
  SS X ρ (do
   let (a, b) := ((← Go.behindNumber a).1, (← Go.behindNumber b).1)
   if a.block == b.block && a.block < (← Go.program).globals.size then return (← byteOf a) == (← byteOf b)
   let .named "sync.copyChecker" _ := (← Go.typeInfo t).desc | unsupported .addressObserved
   if a == b then Pure.pure true else unsupported .addressObserved) (do
   let (a, b) := ((← Go.behindNumber a').1, (← Go.behindNumber b').1)
   if a.block == b.block && a.block < (← Go.program).globals.size then return (← byteOf a) == (← byteOf b)
   let .named "sync.copyChecker" _ := (← Go.typeInfo t).desc | unsupported .addressObserved
   if a == b then Pure.pure true else unsupported .addressObserved) Q := by
 refine (SS.behindNumber ha).bind fun ρ1 p p' le ⟨h1, _⟩ => ?_
 refine (SS.behindNumber (hb.mono le)).bind fun ρ2 q q' vg ⟨h2, _⟩ => ?_
 refine SS.program ?_
 have g1 : X.P.globals.size = 0 := H.globals
 have g2 : X.P'.globals.size = 0 := by rw [← H.globals, H.tables]
 simp only [g1, g2, Nat.not_lt_zero, decide_false, Bool.and_false, Bool.false_eq_true, if_false]
 refine (SS.typeInfo H t).bind fun ρ3 j j' le3 ⟨e, hj⟩ => ?_
 subst e
 rw [hi] at hj; cases hj
 split
 ·rename_i hd; rw [hd] at hn; simp at hn
 ·exact SS.halt
theorem SS.equalIn (H : X.Ok Fb) : ∀ (d : Nat) (t : TypeId), qfz X.P X.P' d t = true → ∀ (d2 : Nat) {ρ : Rel} {x x' y y' : Value}, VR X.F ρ x x' → VR X.F ρ y y' → SS X ρ (Op.equalIn d2 t x y) (Op.equalIn d2 t x' y') (fun _ b b' => b = b')
 |0, _, h, _, _, _, _, _, _, _, _ => by simp [qfz] at h
 |d + 1, t, h, 0, _, _, _, _, _, _, _ => SS.dies (q9.unsupported _)
 |d + 1, t, h, d2 + 1, ρ, x, x', y, y', hx, hy => by
  unfold Op.equalIn
  refine (SS.underlying H t).bind fun ρ1 u u' le ⟨e, hu⟩ => ?_
  subst e
  unfold qfz at h
  rw [hu] at h
  cases u with
  |bool => cases hx <;> cases hy <;> first | exact SS.pure rfl | exact SS.halt
  |string => cases hx <;> cases hy <;> first | exact SS.pure rfl | exact SS.halt
  |int k =>
   simp only at h
   cases hi : X.P.info? t with
   |none => rw [hi] at h; cases h
   |some i =>
    rw [hi] at h
    simp only [Bool.not_eq_true'] at h
    cases hx with
    |int k1 n =>
     cases hy with
     |int k2 m => simp only; exact SS.ite (fun _ => SS.pure rfl) (fun _ => SS.halt)
     |qai => exact SS.halt
     |ptr r =>
      by_cases h0 : n = 0
      ·subst h0; exact SS.pure rfl
      ·simp only
       split
       all_goals first | (exfalso; simp_all; done) | exact SS.halt | skip
       all_goals (rename_i e; exfalso; simp at e)
     |_ => exact SS.halt
    |qai => cases hy <;> first | exact SS.halt | skip
    |ptr r =>
     cases hy with
     |int k2 m =>
      by_cases h0 : m = 0
      ·subst h0; exact SS.pure rfl
      ·simp only
       split
       all_goals first | (exfalso; simp_all; done) | exact SS.halt | skip
       all_goals (rename_i e; exfalso; simp at e)
     |ptr r2 => exact SS.q5k H hi h (AR.of (le _ _ r)) (AR.of (le _ _ r2))
     |_ => exact SS.halt
    |_ => cases hy <;> first | exact SS.halt | skip
  |struct fs =>
   simp only [Bool.and_eq_true, Bool.not_eq_true', List.all_eq_true, Bool.or_eq_true, beq_iff_eq] at h
   obtain ⟨⟨h1, h2⟩, h3⟩ := h
   cases hx <;> cases hy <;> first | exact SS.halt | skip
   rename_i cs cs' hcs xs xs' hxs
   simp only
   refine SS.program ?_
   simp only [h1, h2, Bool.false_eq_true, if_false]
   rw [← Array.forIn_toList, ← Array.forIn_toList]
   refine SS.bind (Q := fun _ s s' => s = s') (SS.qhw _ (Q := fun _ s s' => s = s') (fun _ _ _ _ _ e => e) rfl fun f hf ρ2 b b' vg e => ?_) fun _ s s' _ e => ?_
   ·refine SS.ite (fun hn => ?_) (fun _ => SS.pure (.inl ⟨_, _, rfl, rfl, rfl⟩))
    refine (SS.part H _ _ ((hcs.mono le).mono vg)).bind fun ρ3 v v' le3 hv => ?_
    refine (SS.part H _ _ (((hxs.mono le).mono vg).mono le3)).bind fun ρ4 z z' le4 hz => ?_
    refine (SS.equalIn H d f.type ((h3 f hf).resolve_left hn) d2 (hv.mono le4) hz).bind fun ρ5 q q' _ e => ?_
    subst e
    exact SS.ite (fun _ => SS.pure (.inr ⟨_, _, rfl, rfl, rfl⟩)) (fun _ => SS.pure (.inl ⟨_, _, rfl, rfl, rfl⟩))
   ·subst e
    cases s.fst <;> exact SS.pure rfl
  |array l e =>
   simp only at h
   cases hx <;> cases hy <;> first | exact SS.halt | skip
   rename_i cs cs' hcs xs xs' hxs
   simp only
   refine (SS.sizeOf H e).bind fun ρ2 m m' vg ⟨em, _⟩ => ?_
   subst em
   simp only [Std.Legacy.Range.forIn_eq_forIn_range']
   refine SS.bind (Q := fun _ s s' => s = s') (SS.qhw _ (Q := fun _ s s' => s = s') (fun _ _ _ _ _ e => e) rfl fun f hf ρ3 b b' le3 e => ?_) fun _ s s' _ e => ?_
   ·refine (SS.part H _ _ (((hcs.mono le).mono vg).mono le3)).bind fun ρ4 v v' le4 hv => ?_
    refine (SS.part H _ _ ((((hxs.mono le).mono vg).mono le3).mono le4)).bind fun ρ5 z z' le5 hz => ?_
    refine (SS.equalIn H d _ h d2 (hv.mono le5) hz).bind fun ρ6 q q' _ e => ?_
    subst e
    exact SS.ite (fun _ => SS.pure (.inr ⟨_, _, rfl, rfl, rfl⟩)) (fun _ => SS.pure (.inl ⟨_, _, rfl, rfl, rfl⟩))
   ·subst e
    cases s.fst <;> exact SS.pure rfl
  |_ => cases h
theorem EsR.length {F : FuncId → Prop} : ∀ {l l' : List MapEntry}, EsR F ρ l l' → l.length = l'.length
 |_, _, .nil => rfl
 |_, _, .cons _ b => by simp [b.length]
theorem EsR.append {F : FuncId → Prop} : ∀ {l l' m m' : List MapEntry}, EsR F ρ l l' → EsR F ρ m m' → EsR F ρ (l ++ m) (l' ++ m')
 |_, _, _, _, .nil, h => h
 |_, _, _, _, .cons a b, h => .cons a (b.append h)
theorem EsR.get? {F : FuncId → Prop} : ∀ {l l' : List MapEntry}, EsR F ρ l l' → ∀ (i : Nat) {e : MapEntry}, l[i]? = some e → ∃ e', l'[i]? = some e' ∧ ER F ρ e e'
 |_, _, .nil, i, v, h => by simp at h
 |_, _, .cons a b, 0, v, h => by simp at h; subst h; exact ⟨_, rfl, a⟩
 |_, _, .cons a b, i + 1, v, h => by simpa using b.get? i (by simpa using h)
theorem EsR.eraseIdx {F : FuncId → Prop} : ∀ {l l' : List MapEntry}, EsR F ρ l l' → ∀ (i : Nat), EsR F ρ (l.eraseIdx i) (l'.eraseIdx i)
 |_, _, .nil, _ => .nil
 |_, _, .cons _ b, 0 => b
 |_, _, .cons a b, i + 1 => .cons a (b.eraseIdx i)
theorem EsR.set {F : FuncId → Prop} : ∀ {l l' : List MapEntry}, EsR F ρ l l' → ∀ (i : Nat) {e e' : MapEntry}, ER F ρ e e' → EsR F ρ (l.set i e) (l'.set i e')
 |_, _, .nil, _, _, _, _ => .nil
 |_, _, .cons _ b, 0, _, _, h => .cons h b
 |_, _, .cons a b, i + 1, _, _, h => .cons a (b.set i h)
theorem EsR.filter {F : FuncId → Prop} (p q : MapEntry → Bool) (hpq : ∀ e e', ER F ρ e e' → p e = q e') : ∀ {l l' : List MapEntry}, EsR F ρ l l' → EsR F ρ (l.filter p) (l'.filter q)
 |_, _, .nil => .nil
 |_, _, .cons a b => by
  rename_i e e' l l'
  rw [List.filter_cons, List.filter_cons, hpq _ _ a]
  split
  ·exact .cons a (b.filter p q hpq)
  ·exact b.filter p q hpq
theorem EsR.all {F : FuncId → Prop} (p q : MapEntry → Bool) (hpq : ∀ e e', ER F ρ e e' → p e = q e') : ∀ {l l' : List MapEntry}, EsR F ρ l l' → l.all p = l'.all q
 |_, _, .nil => rfl
 |_, _, .cons a b => by simp [hpq _ _ a, b.all p q hpq]
theorem EsR.find {F : FuncId → Prop} (p q : MapEntry → Bool) (hpq : ∀ e e', ER F ρ e e' → p e = q e') : ∀ {l l' : List MapEntry}, EsR F ρ l l' → ∀ {e : MapEntry}, l.find? p = some e → ∃ e', l'.find? q = some e' ∧ ER F ρ e e'
 |_, _, .nil, e, h => by cases h
 |_, _, .cons a b, e, h => by
  rw [List.find?_cons] at h ⊢
  rw [← hpq _ _ a]
  split at h
  ·cases h; exact ⟨_, rfl, a⟩
  ·exact b.find p q hpq h
theorem qus {F : FuncId → Prop} {x x' y y' : Value} (hx : VR F ρ x x') (hy : VR F ρ y y') (d : TypeDesc) : Instr.sameNow d x y = Instr.sameNow d x' y' := by
 cases d <;> cases hx <;> cases hy <;> rfl
theorem qlx {F : FuncId → Prop} {k k' : Value} (hk : VR F ρ k k') (d : TypeDesc) : ∀ {l l' : List MapEntry}, EsR F ρ l l' → ∀ (i : Nat),
  (Instr.findNow d k l i = none ∧ Instr.findNow d k' l' i = none) ∨ (Instr.findNow d k l i = some none ∧ Instr.findNow d k' l' i = some none) ∨
   ∃ j v v', Instr.findNow d k l i = some (some (j, v)) ∧ Instr.findNow d k' l' i = some (some (j, v')) ∧ VR F ρ v v'
 |_, _, .nil, i => .inr (.inl ⟨rfl, rfl⟩)
 |_, _, .cons a b, i => by
  unfold Instr.findNow
  rw [← qus hk a.key d]
  split
  ·exact .inr (.inr ⟨_, _, _, rfl, rfl, a.val⟩)
  ·exact qlx hk d b (i + 1)
  ·exact .inl ⟨rfl, rfl⟩
theorem SS.findAsking (H : X.Ok Fb) {t : TypeId} {dep : Nat} (ht : qfz X.P X.P' dep t = true) : ∀ {l l' : List MapEntry} {ρ : Rel} {k k' : Value}, VR X.F ρ k k' → EsR X.F ρ l l' → ∀ (i : Nat),
  SS X ρ (Instr.findAsking t k l i) (Instr.findAsking t k' l' i) (fun ρ1 r r' => (r = none ∧ r' = none) ∨ ∃ j v v', r = some (j, v) ∧ r' = some (j, v') ∧ VR X.F ρ1 v v')
 | [], _, ρ, k, k', hk, h, i => by cases h; exact SS.pure (.inl ⟨rfl, rfl⟩)
 |e :: l, _, ρ, k, k', hk, h, i => by
  cases h with
  |cons a b =>
   unfold Instr.findAsking
   refine (SS.equalIn H _ t ht _ hk a.key).bind fun ρ1 q q' le e => ?_
   subst e
   refine SS.ite (fun _ => SS.pure (.inr ⟨_, _, _, rfl, rfl, a.val.mono le⟩)) (fun _ => ?_)
   exact SS.findAsking H ht (hk.mono le) (b.mono le) (i + 1)
theorem SS.findKey (H : X.Ok Fb) {t : TypeId} {dep : Nat} (ht : qfz X.P X.P' dep t = true) {l l' : List MapEntry} {k k' : Value} (hk : VR X.F ρ k k') (h : EsR X.F ρ l l') :
  SS X ρ (Instr.findKey t k l) (Instr.findKey t k' l') (fun ρ1 r r' => (r = none ∧ r' = none) ∨ ∃ j v v', r = some (j, v) ∧ r' = some (j, v') ∧ VR X.F ρ1 v v') := by
 unfold Instr.findKey
 refine (SS.underlying H t).bind fun ρ1 d d' le ⟨e, _⟩ => ?_
 subst e
 rcases qlx (hk.mono le) d (h.mono le) 0 with ⟨h1, h2⟩ | ⟨h1, h2⟩ | ⟨j, v, v', h1, h2, h3⟩
 ·rw [h1, h2]; exact SS.findAsking H ht (hk.mono le) (h.mono le) 0
 ·rw [h1, h2]; exact SS.pure (.inl ⟨rfl, rfl⟩)
 ·rw [h1, h2]; exact SS.pure (.inr ⟨_, _, _, rfl, rfl, h3⟩)
theorem SS.lookup (H : X.Ok Fb) (xt : TypeId) (key elem : TypeId) (hx : X.P.underlying xt = some (.map key elem)) {dep : Nat} (hk : qfz X.P X.P' dep key = true) (hz : qc9 X.P Fb elem = true) {m m' k k' : Value} (hm : VR X.F ρ m m') (hkk : VR X.F ρ k k') (ok : Bool) :
  SS X ρ (Instr.lookup xt m k ok) (Instr.lookup xt m' k' ok) (fun ρ1 v v' => VR X.F ρ1 v v') := by
 unfold Instr.lookup
 refine (SS.underlying H xt).bind fun ρ1 d d' le ⟨e, hd⟩ => ?_
 subst e
 rw [hx] at hd; cases hd
 simp only
 have tail : ∀ (ρ2 : Rel) (es es' : Array MapEntry), ρ1.le ρ2 → EsR X.F ρ2 es.toList es'.toList → SS X ρ2
   (do
    Instr.checkKey es.isEmpty 10000 key k
    let (v, ok1) ← match ← Instr.findKey key k es.toList with
     |some (_, v) => Pure.pure (v, true)
     |none => Pure.pure (← Go.zeroValue elem, false)
    Pure.pure (if ok then Value.tuple #[v, .bool ok1] else v))
   (do
    Instr.checkKey es'.isEmpty 10000 key k'
    let (v, ok1) ← match ← Instr.findKey key k' es'.toList with
     |some (_, v) => Pure.pure (v, true)
     |none => Pure.pure (← Go.zeroValue elem, false)
    Pure.pure (if ok then Value.tuple #[v, .bool ok1] else v)) (fun ρ1 v v' => VR X.F ρ1 v v') := by
  intro ρ2 es es' vg hes
  have emp : es'.isEmpty = es.isEmpty := by
   have := hes.length
   simp only [Array.length_toList] at this
   simp [Array.isEmpty, this]
  rw [emp]
  refine (SS.checkKey H _ _ _ ((hkk.mono le).mono vg)).bind fun ρ3 _ _ le3 _ => ?_
  refine (SS.findKey H hk (((hkk.mono le).mono vg).mono le3) (hes.mono le3)).bind fun ρ4 r r' le4 hr => ?_
  have fin : ∀ (ρ5 : Rel) (v v' : Value) (b : Bool), VR X.F ρ5 v v' → SS X ρ5 (Pure.pure (if ok then Value.tuple #[v, .bool b] else v)) (Pure.pure (if ok then Value.tuple #[v', .bool b] else v')) (fun ρ1 v v' => VR X.F ρ1 v v') := fun ρ5 v v' b h => by
   cases ok
   ·exact SS.pure h
   ·exact SS.pure (.tuple (.cons h (.cons (.bool _) .nil)))
  rcases hr with ⟨rfl, rfl⟩ | ⟨j, v, v', rfl, rfl, hv⟩
  ·exact (SS.zeroValue H elem hz).bind fun _ z z' _ hz' => fin _ _ _ _ hz'
  ·exact fin _ _ _ _ hv
 cases hm with
 |qa9 => exact tail ρ1 #[] #[] ρ1.le_refl .nil
 |map r =>
  simp only
  refine (SS.getObj (le _ _ r)).bind fun ρ2 o o' vg ⟨ho, _⟩ => ?_
  cases ho with
  | @map es es' clock hes => exact tail ρ2 es es' vg hes
  |_ => exact SS.halt
 |_ => exact SS.halt
theorem SS.range (H : X.Ok Fb) (t : TypeId) {x x' : Value} (hx : VR X.F ρ x x') : SS X ρ (Instr.range t x) (Instr.range t x') (fun ρ1 v v' => VR X.F ρ1 v v') := by
 unfold Instr.range
 refine (SS.underlying H t).bind fun ρ1 d d' le ⟨e, hd⟩ => ?_
 subst e
 have tail : ∀ (ρ2 : Rel) (o o' : Obj), (∀ r r', OR X (qiy ρ2 r r') o o') → SS X ρ2 (do Pure.pure (Value.pointer (some ⟨← Go.newObj o, 0, none⟩))) (do Pure.pure (Value.pointer (some ⟨← Go.newObj o', 0, none⟩))) (fun ρ1 v v' => VR X.F ρ1 v v') :=
  fun ρ2 o o' ho => (SS.newObj ho).bind fun _ r r' _ hr => SS.pure (.ptr hr)
 cases d <;> cases hx <;> first | exact SS.halt | exact tail _ _ _ (fun _ _ => .stringIter _ _) | exact tail _ _ _ (fun _ _ => .qaq _ _ _) | skip
 rename_i r
 simp only
 refine (SS.getObj (le _ _ r)).bind fun ρ2 o o' vg ⟨ho, _⟩ => ?_
 cases ho with
 |map _ => exact tail _ _ _ (fun a b => .mapIter (qa7 ρ2 a b _ _ (vg _ _ (le _ _ r))))
 |_ => exact SS.halt
theorem SS.next (H : X.Ok Fb) {it it' : Value} (h : VR X.F ρ it it') (b : Bool) (t : TypeId) : SS X ρ (Instr.next it b t) (Instr.next it' b t) (fun ρ1 v v' => VR X.F ρ1 v v') := by
 unfold Instr.next
 cases h with
 | @ptr r r' o s hr =>
  cases o with
  |succ n => exact SS.halt
  |zero =>
   simp only
   refine (SS.getObj hr).bind fun ρ1 o o' le ⟨ho, hsh, _⟩ => ?_
   have over : ∀ ρ2, SS X ρ2 (Pure.pure (Value.tuple #[.bool false])) (Pure.pure (Value.tuple #[.bool false])) (fun ρ1 v v' => VR X.F ρ1 v v') := fun _ => SS.pure (.tuple (.cons (.bool _) .nil))
   cases ho with
   |stringIter s p =>
    have ns : ¬ X.Sh r := fun hs => by obtain ⟨_, _, e⟩ := hsh hs; cases e
    cases b with
    |false => exact SS.halt
    |true =>
     simp only
     refine SS.ite (fun _ => ?_) (fun _ => over _)
     refine (SS.setObj (le _ _ hr) (.stringIter _ _) ns).bind fun _ _ _ _ _ => SS.pure (.tuple (.cons (.bool _) (.cons (.int _ _) (.cons (.int _ _) .nil))))
   |qaq a c d => cases b <;> first | exact over _ | exact SS.halt
   | @mapIter m m' since seen last hm =>
    have ns : ¬ X.Sh r := fun hs => by obtain ⟨_, _, e⟩ := hsh hs; cases e
    cases b with
    |true => exact SS.halt
    |false =>
     simp only
     refine (SS.getObj hm).bind fun ρ2 o o' vg ⟨ho2, _⟩ => ?_
     cases ho2 with
     | @map es es' clock hes => ?_
     |_ => exact SS.halt
     simp only
     have born : ∀ e e', ER X.F ρ2 e e' → e.born = e'.born := fun e e' h => h.born
     have eemp : es'.isEmpty = es.isEmpty := by
      have := hes.length
      simp only [Array.length_toList] at this
      simp [Array.isEmpty, this]
     have eall : es'.all (fun x => decide (x.born ≥ last)) = es.all (fun x => decide (x.born ≥ last)) := by
      rw [← Array.all_toList, ← Array.all_toList]
      exact (hes.all _ _ (fun e e' h => by rw [h.born])).symm
     rw [eemp, eall]
     refine SS.ite (fun _ => SS.dies (q9.ku (q9.unsupported _))) (fun _ => ?_)
     generalize hl : (es.filter fun e => !seen.contains e.born) = left
     generalize hl' : (es'.filter fun e => !seen.contains e.born) = left'
     have hleft : EsR X.F ρ2 left.toList left'.toList := by
      subst hl; subst hl'
      rw [Array.toList_filter, Array.toList_filter]
      exact hes.filter _ _ (fun e e' h => by rw [h.born])
     generalize ho3 : (left.filter fun e => decide (e.born < since)) = old
     generalize ho3' : (left'.filter fun e => decide (e.born < since)) = old'
     have hold : EsR X.F ρ2 old.toList old'.toList := by
      subst ho3; subst ho3'
      rw [Array.toList_filter, Array.toList_filter]
      exact hleft.filter _ _ (fun e e' h => by rw [h.born])
     generalize hn3 : (left.filter fun e => decide (e.born ≥ since)) = new
     generalize hn3' : (left'.filter fun e => decide (e.born ≥ since)) = new'
     have hnew : EsR X.F ρ2 new.toList new'.toList := by
      subst hn3; subst hn3'
      rw [Array.toList_filter, Array.toList_filter]
      exact hleft.filter _ _ (fun e e' h => by rw [h.born])
     have oemp : old'.isEmpty = old.isEmpty := by
      have := hold.length
      simp only [Array.length_toList] at this
      simp [Array.isEmpty, this]
     rw [oemp]
     have hall : EsR X.F ρ2 (old ++ new).toList (old' ++ new').toList := by
      rw [Array.toList_append, Array.toList_append]; exact hold.append hnew
     have hsz : (old ++ new).size = (old' ++ new').size := by simpa using hall.length
     generalize old ++ new = qv8 at hall hsz
     generalize old' ++ new' = qln at hall hsz
     generalize hpre : (if old.isEmpty = true then (#[none] : Array (Option MapEntry)) else #[]) = pre
     have esz : (pre ++ qln.map some).size = (pre ++ qv8.map some).size := by simp [hsz]
     rw [esz]
     refine (SS.choose _).bind fun ρ3 n n' le3 e => ?_
     subst e
     have getc : ∀ i : Nat, ((pre ++ qv8.map some)[i]? = none ∧ (pre ++ qln.map some)[i]? = none) ∨ ((pre ++ qv8.map some)[i]? = some none ∧ (pre ++ qln.map some)[i]? = some none) ∨ ∃ e e', (pre ++ qv8.map some)[i]? = some (some e) ∧ (pre ++ qln.map some)[i]? = some (some e') ∧ ER X.F ρ2 e e' := by
      intro i
      rw [Array.getElem?_append, Array.getElem?_append]
      split
      ·rename_i hlt
       have : pre = #[none] := by
        subst hpre; split
        ·rfl
        ·rename_i h; rw [if_neg h] at hlt; simp at hlt
       subst this
       have : i = 0 := by simp at hlt; exact hlt
       subst this
       exact .inr (.inl ⟨rfl, rfl⟩)
      ·simp only [Array.getElem?_map]
       cases hc : qv8[i - pre.size]? with
       |none =>
        have : qln[i - pre.size]? = none := by
         rw [Array.getElem?_eq_none_iff] at hc ⊢; omega
        rw [this]; exact .inl ⟨rfl, rfl⟩
       |some e =>
        obtain ⟨e', h1, h2⟩ := hall.get? (i - pre.size) (e := e) (by simpa using hc)
        have h1' : qln[i - pre.size]? = some e' := by simpa using h1
        rw [h1']; exact .inr (.inr ⟨e, e', rfl, rfl, h2⟩)
     rcases getc n with ⟨h1, h2⟩ | ⟨h1, h2⟩ | ⟨e, e', h1, h2, h3⟩
     ·rw [h1, h2]; exact SS.halt
     ·rw [h1, h2]; exact over _
     ·rw [h1, h2]
      simp only
      rw [← h3.born]
      refine (SS.setObj (le3 _ _ (vg _ _ (le _ _ hr))) (.mapIter (le3 _ _ (vg _ _ hm))) ns).bind fun ρ4 _ _ le4 _ => ?_
      exact SS.pure (.tuple (.cons (.bool _) (.cons ((h3.key.mono le3).mono le4) (.cons ((h3.val.mono le3).mono le4) .nil))))
   |_ => cases b <;> exact SS.halt
 |_ => exact SS.halt
theorem SS.entry {it it' : Value} (h : VR X.F ρ it it') : SS X ρ (Instr.entry it) (Instr.entry it') (fun ρ1 v v' => VR X.F ρ1 v v') := by
 unfold Instr.entry
 cases h with
 | @ptr r r' o s hr =>
  cases o with
  |succ n => exact SS.halt
  |zero =>
   simp only
   refine (SS.getObj hr).bind fun ρ1 o o' le ⟨ho, _⟩ => ?_
   cases ho with
   | @mapIter m m' since seen st hm => ?_
   |_ => exact SS.halt
   simp only
   cases hb : seen.back? with
   |none => exact SS.halt
   |some stamp =>
    simp only
    refine (SS.getObj hm).bind fun ρ2 o o' vg ⟨ho2, _⟩ => ?_
    cases ho2 with
    | @map es es' clock hes => ?_
    |_ => exact SS.halt
    simp only
    refine SS.ite (fun _ => SS.dies (q9.ku (q9.unsupported _))) (fun _ => ?_)
    cases hf : es.find? (fun x => x.born == stamp) with
    |none => exact SS.halt
    |some e =>
     rw [← Array.find?_toList] at hf
     obtain ⟨e', h1, h2⟩ := hes.find _ (fun x => x.born == stamp) (fun e e' h => by rw [h.born]) hf
     rw [Array.find?_toList] at h1
     rw [h1]
     exact SS.pure (.tuple (.cons h2.key (.cons h2.val .nil)))
 |_ => exact SS.halt
end
section
variable {X : Cx} {Fb : FuncId → Bool} {ρ : Rel} {α β : Type}
theorem qko {F : FuncId → Prop} (fn : ∀ a b b', ρ a b → ρ a b' → b = b') (inj : ∀ a a' b, ρ a b → ρ a' b → a = a') : ∀ (n : Nat) {x x' y y' : Value}, VR F ρ x x' → VR F ρ y y' → Instr.sameBits n x y = Instr.sameBits n x' y'
 |0, x, x', y, y', hx, hy => by
  cases hx <;> cases hy <;> first | rfl | skip
  rename_i b b' o s r c c' o2 s2 r2
  simp only [Instr.sameBits]
  have : b = c ↔ b' = c' := ⟨fun e => by subst e; exact fn _ _ _ r r2, fun e => by subst e; exact inj _ _ _ r r2⟩
  rw [Bool.eq_iff_iff]; simp [this]
 |n + 1, x, x', y, y', hx, hy => by
  cases hx <;> cases hy <;> first | rfl | skip
  ·rename_i b b' o s r c c' o2 s2 r2
   simp only [Instr.sameBits]
   have : b = c ↔ b' = c' := ⟨fun e => by subst e; exact fn _ _ _ r r2, fun e => by subst e; exact inj _ _ _ r r2⟩
   rw [Bool.eq_iff_iff]; simp [this]
  ·rename_i cs cs' h ds ds' k
   simp only [Instr.sameBits]
   have key : ∀ (l l' m m' : List Value), jw F ρ l l' → jw F ρ m m' → ((l.zip m).all fun (x, y) => Instr.sameBits n x y) = ((l'.zip m').all fun (x, y) => Instr.sameBits n x y) := by
    intro l
    induction l with
    |nil => intro l' m m' h1 h2; cases h1; simp
    |cons v l ih =>
     intro l' m m' h1 h2
     cases h1 with
     |cons a b =>
      cases h2 with
      |nil => simp
      |cons c d => simp [qko fn inj n a c, ih _ _ _ b d]
   rw [key _ _ _ _ h k, h.size, k.size]
theorem SS.keyThatStays {x x' y y' : Value} (hx : VR X.F ρ x x') (hy : VR X.F ρ y y') : SS X ρ (Instr.keyThatStays x y) (Instr.keyThatStays x' y') (fun ρ1 v v' => VR X.F ρ1 v v') := by
 have main : ∀ {w w' : World}, WR X ρ w w' → SS X ρ (Instr.keyThatStays x y) (Instr.keyThatStays x' y') (fun ρ1 v v' => VR X.F ρ1 v v') := by
  intro w w' hw
  have e := qko (F := X.F) (ρ := ρ) (fun a b b' h k => hw.fn h k) (fun a a' b h k => hw.inj h k) 10000 hx hy
  unfold Instr.keyThatStays
  rw [← e]
  refine SS.ite (fun _ => SS.pure hy) (fun _ => ?_)
  refine (SS.choose _).bind fun ρ1 n n' le en => ?_
  subst en
  refine SS.pure ?_
  split
  ·exact hy.mono le
  ·exact hx.mono le
 exact ⟨fun w w' a w1 es hw => (main hw).1 w w' a w1 es hw, fun w w' x w1 hw => (main hw).2 w w' x w1 hw, fun w w' hw => (main hw).3 w w' hw⟩
theorem SS.mapUpdate (H : X.Ok Fb) (hns : ∀ b, ¬ X.Sh b) (xt : TypeId) (key elem : TypeId) (hx : X.P.underlying xt = some (.map key elem)) {dep : Nat} (hk : qfz X.P X.P' dep key = true) {m m' k k' v v' : Value}
  (hm : VR X.F ρ m m') (hkk : VR X.F ρ k k') (hv : VR X.F ρ v v') : SS X ρ (Instr.mapUpdate xt m k v) (Instr.mapUpdate xt m' k' v') (fun _ _ _ => True) := by
 unfold Instr.mapUpdate
 refine (SS.underlying H xt).bind fun ρ1 d d' le ⟨e, hd⟩ => ?_
 subst e
 rw [hx] at hd; cases hd
 simp only
 cases hm with
 |qa9 => exact SS.dies (q9.runtimePanic _)
 |map r =>
  simp only
  refine (SS.getObj (le _ _ r)).bind fun ρ2 o o' vg ⟨ho, _⟩ => ?_
  cases ho with
  | @map es es' clock hes => ?_
  |_ => exact SS.halt
  simp only
  refine (SS.checkKey H _ _ _ ((hkk.mono le).mono vg)).bind fun ρ3 _ _ le3 _ => ?_
  refine (SS.findKey H hk (((hkk.mono le).mono vg).mono le3) (hes.mono le3)).bind fun ρ4 q q' le4 hq => ?_
  have qhy : ρ.le ρ4 := Rel.le_trans le (Rel.le_trans vg (Rel.le_trans le3 le4))
  have qqu := (hes.mono le3).mono le4
  rcases hq with ⟨rfl, rfl⟩ | ⟨j, y, y', rfl, rfl, _⟩
  ·simp only
   refine SS.setObj (qhy _ _ r) (.map ?_) (hns _)
   rw [Array.toList_push, Array.toList_push]
   exact qqu.append (.cons ⟨hkk.mono qhy, hv.mono qhy, rfl⟩ .nil)
  ·simp only
   refine SS.bind (SS.keyThatStays (x' := ((es'[j]?).map (·.key)).getD k') ?_ (hkk.mono qhy)) fun ρ5 z z' le5 hz => ?_
   ·cases hj : es[j]? with
    |none =>
     have : es'[j]? = none := by
      have := qqu.length
      simp only [Array.length_toList] at this
      rw [Array.getElem?_eq_none_iff] at hj ⊢; omega
     rw [this]; exact hkk.mono qhy
    |some e =>
     obtain ⟨e', h1, h2⟩ := qqu.get? j (e := e) (by simpa using hj)
     have h1' : es'[j]? = some e' := by simpa using h1
     rw [h1']; exact h2.key
   ·refine SS.setObj (le5 _ _ (qhy _ _ r)) (.map ?_) (hns _)
    have q1l := qqu.mono le5
    have upd : ∀ (es : Array MapEntry) (f : MapEntry → MapEntry), (es.modify j f).toList = match es.toList[j]? with
      |some e => es.toList.set j (f e)
      |none => es.toList := by
     intro es f
     rw [Array.toList_modify]
     cases h : es.toList[j]? with
     |none => rw [List.modify_eq_self (List.getElem?_eq_none_iff.1 h)]
     |some e =>
      obtain ⟨hlt, he⟩ := List.getElem?_eq_some_iff.1 h
      refine List.ext_getElem? fun i => ?_
      rw [List.getElem?_modify, List.getElem?_set]
      by_cases hij : j = i
      ·subst hij; simp only [h, hlt, if_true, Option.map_some]; rfl
      ·simp [hij]
    rw [upd, upd]
    cases hj : es.toList[j]? with
    |none =>
     have : es'.toList[j]? = none := by
      have := q1l.length
      rw [List.getElem?_eq_none_iff] at hj ⊢; omega
     rw [this]; exact q1l
    |some e =>
     obtain ⟨e', h1, h2⟩ := q1l.get? j hj
     rw [h1]
     exact q1l.set j ⟨hz, (hv.mono qhy).mono le5, h2.born⟩
 |_ => exact SS.halt
theorem jw.toA {F : FuncId → Prop} {a a' : Array Value} {i : Nat} (h : jw F ρ a.toList a'.toList) : (a[i]? = none ∧ a'[i]? = none) ∨ ∃ v v', a[i]? = some v ∧ a'[i]? = some v' ∧ VR F ρ v v' := by
 cases hc : a[i]? with
 |none =>
  refine .inl ⟨rfl, ?_⟩
  have := h.size
  rw [Array.getElem?_eq_none_iff] at hc ⊢; omega
 |some v => obtain ⟨v', h1, h2⟩ := h.qvw hc; exact .inr ⟨v, v', rfl, h1, h2⟩
theorem SS.delete (H : X.Ok Fb) (hns : ∀ b, ¬ X.Sh b) (ats : Array TypeId) (t xt key elem : TypeId) (h0 : ats[0]? = some xt) (hx : X.P.underlying xt = some (.map key elem)) {dep : Nat} (hk : qfz X.P X.P' dep key = true) {ars zw : Array Value}
  (h : jw X.F ρ ars.toList zw.toList) : SS X ρ (Builtin.delete_ ats t ars) (Builtin.delete_ ats t zw) (fun ρ1 v v' => VR X.F ρ1 v v') := by
 unfold Builtin.delete_
 rw [h0]
 rcases h.toA (i := 0) with ⟨a1, a2⟩ | ⟨m, m', a1, a2, hm⟩
 ·rw [a1, a2]; exact SS.halt
 rcases h.toA (i := 1) with ⟨b1, b2⟩ | ⟨k, k', b1, b2, hkk⟩
 ·rw [a1, a2, b1, b2]; exact SS.halt
 rw [a1, a2, b1, b2]
 simp only
 refine (SS.underlying H xt).bind fun ρ1 d d' le ⟨e, hd⟩ => ?_
 subst e
 rw [hx] at hd; cases hd
 simp only
 have fin : ∀ ρ2, SS X ρ2 (Pure.pure (Value.tuple #[])) (Pure.pure (Value.tuple #[])) (fun ρ1 v v' => VR X.F ρ1 v v') := fun _ => SS.pure (.tuple .nil)
 cases hm with
 |qa9 => exact (SS.checkKey H _ _ _ (hkk.mono le)).bind fun _ _ _ _ _ => fin _
 |map r =>
  simp only
  refine (SS.getObj (le _ _ r)).bind fun ρ2 o o' vg ⟨ho, _⟩ => ?_
  cases ho with
  | @map es es' clock hes => ?_
  |_ => exact SS.dies (q9.ku (q9.stuck _))
  simp only
  have emp : es'.isEmpty = es.isEmpty := by
   have := hes.length
   simp only [Array.length_toList] at this
   simp [Array.isEmpty, this]
  rw [emp]
  refine (SS.checkKey H _ _ _ ((hkk.mono le).mono vg)).bind fun ρ3 _ _ le3 _ => ?_
  refine (SS.findKey H hk (((hkk.mono le).mono vg).mono le3) (hes.mono le3)).bind fun ρ4 q q' le4 hq => ?_
  have qhy : ρ.le ρ4 := Rel.le_trans le (Rel.le_trans vg (Rel.le_trans le3 le4))
  have qqu := (hes.mono le3).mono le4
  rcases hq with ⟨rfl, rfl⟩ | ⟨j, y, y', rfl, rfl, _⟩
  ·simp only
   exact (SS.setObj (qhy _ _ r) (.map qqu) (hns _)).bind fun _ _ _ _ _ => fin _
  ·simp only
   refine (SS.setObj (qhy _ _ r) (.map ?_) (hns _)).bind fun _ _ _ _ _ => fin _
   have ers : ∀ es : Array MapEntry, (es.eraseIdxIfInBounds j).toList = es.toList.eraseIdx j := fun es => by
    rw [Array.eraseIdxIfInBounds_eq]
    split
    ·rw [Array.toList_eraseIdx]
    ·rw [List.eraseIdx_of_length_le (by simpa using Nat.le_of_not_lt ‹_›)]
   rw [ers, ers]
   exact qqu.eraseIdx j
 |_ => exact SS.dies (q9.ku (q9.stuck _))
theorem SS.fieldAt (H : X.Ok Fb) (s : TypeId) (f : Nat) {fs : Array Field} {fd : Field} (hs : X.P.underlying s = some (.struct fs)) (hf : fs[f]? = some fd) (hz : X.P.cellsOf fd.type ≠ 0) {x x' : Value} (hx : VR X.F ρ x x') :
  SS X ρ (Instr.fieldAt s x f) (Instr.fieldAt s x' f) (fun ρ1 v v' => VR X.F ρ1 v v') := by
 unfold Instr.fieldAt
 refine (SS.underlying H s).bind fun ρ1 d d' le ⟨e, hd⟩ => ?_
 subst e
 rw [hs] at hd; cases hd
 simp only [hf]
 refine (SS.sureAddr (hx.mono le)).bind fun ρ2 a a' vg ha => ?_
 refine SS.bind (Q := fun ρ3 a a' => AR ρ3 a a') ?_ fun ρ3 a a' _ h => SS.pure h.ptr
 unfold fieldPlace
 refine (SS.sizeOf H _).bind fun ρ3 n n' le3 ⟨e, hn⟩ => ?_
 subst e
 rw [if_neg (by rw [hn]; exact hz), if_neg (by rw [hn]; exact hz)]
 exact SS.pure ((ha.mono le3).add _)
theorem SS.indexAt (H : X.Ok Fb) (t : TypeId) {x x' i i' : Value} (hx : VR X.F ρ x x') (hi : VR X.F ρ i i') : SS X ρ (Instr.indexAt t x i) (Instr.indexAt t x' i') (fun ρ1 v v' => VR X.F ρ1 v v') := by
 unfold Instr.indexAt
 refine (SS.asIntOf hi).bind fun ρ1 p p' le e => ?_
 subst e
 obtain ⟨k, n⟩ := p
 simp only
 refine (SS.underlying H t).bind fun ρ2 d d' vg ⟨e, hd⟩ => ?_
 subst e
 have qip := Rel.le_trans le vg
 have tail : ∀ (ρ3 : Rel) (b b' : Option Addr) (len : Nat) (elem : TypeId), ρ2.le ρ3 → ((b = none ∧ b' = none) ∨ ∃ a a', b = some a ∧ b' = some a' ∧ AR ρ3 a a') → SS X ρ3
   (do
    let tiny := len ≤ 1 && (match ← Go.underlying t with | .array .. => true | _ => false)
    match b with
    |some a =>
     if 0 ≤ n ∧ n < len then Pure.pure (Value.pointer (some (a.add (n.toNat * (← Go.sizeOf elem)))))
     else if tiny then unsupported (.noEntry "op/indexAddr.an index out of range at an array of length 0 or 1 (ledger 616)")
     else boundsPanic k n len .index
    |none => boundsPanic k n 0 .index)
   (do
    let tiny := len ≤ 1 && (match ← Go.underlying t with | .array .. => true | _ => false)
    match b' with
    |some a =>
     if 0 ≤ n ∧ n < len then Pure.pure (Value.pointer (some (a.add (n.toNat * (← Go.sizeOf elem)))))
     else if tiny then unsupported (.noEntry "op/indexAddr.an index out of range at an array of length 0 or 1 (ledger 616)")
     else boundsPanic k n len .index
    |none => boundsPanic k n 0 .index) (fun ρ1 v v' => VR X.F ρ1 v v') := by
  intro ρ3 b b' len elem le3 hb
  refine (SS.underlying H t).bind fun ρ4 d d' le4 ⟨e, hd⟩ => ?_
  subst e
  rcases hb with ⟨rfl, rfl⟩ | ⟨a, a', rfl, rfl, ha⟩
  ·exact SS.dies (q9.boundsPanic _ _ _ _)
  ·simp only
   refine SS.ite (fun _ => ?_) (fun _ => SS.ite (fun _ => SS.halt) (fun _ => SS.dies (q9.boundsPanic _ _ _ _)))
   refine (SS.sizeOf H _).bind fun ρ5 m m' le5 ⟨e, _⟩ => ?_
   subst e
   exact SS.pure (((ha.mono le4).mono le5).add _).ptr
 cases d with
 |array len elem =>
  simp only
  refine (SS.sureAddr (hx.mono qip)).bind fun ρ3 a a' le3 ha => ?_
  exact tail ρ3 (some a) (some a') len elem le3 (.inr ⟨_, _, rfl, rfl, ha⟩)
 |slice elem =>
  cases hx with
  |jk n c => exact tail ρ2 none none n elem ρ2.le_refl (.inl ⟨rfl, rfl⟩)
  |slice r => exact tail ρ2 (some _) (some _) _ elem ρ2.le_refl (.inr ⟨_, _, rfl, rfl, ⟨qip _ _ r, rfl, rfl⟩⟩)
  |_ => exact SS.dies (q9.ku (q9.stuck _))
 |_ => exact SS.dies (q9.ku (q9.stuck _))
theorem SS.index (H : X.Ok Fb) (t : TypeId) {x x' i i' : Value} (hx : VR X.F ρ x x') (hi : VR X.F ρ i i') : SS X ρ (Instr.index t x i) (Instr.index t x' i') (fun ρ1 v v' => VR X.F ρ1 v v') := by
 unfold Instr.index
 refine (SS.asIntOf hi).bind fun ρ1 p p' le e => ?_
 subst e
 obtain ⟨k, n⟩ := p
 simp only
 refine (SS.underlying H t).bind fun ρ2 d d' vg ⟨e, hd⟩ => ?_
 subst e
 cases d with
 |array len elem =>
  cases hx with
  |agg h =>
   simp only
   refine SS.ite (fun _ => ?_) (fun _ => SS.dies (q9.boundsPanic _ _ _ _))
   refine (SS.sizeOf H _).bind fun ρ5 m m' le5 ⟨e, _⟩ => ?_
   subst e
   exact SS.part H _ _ (((h.mono le).mono vg).mono le5)
  |_ => exact SS.halt
 |string =>
  cases hx with
  |string s =>
   simp only
   split
   ·exact SS.pure (.int _ _)
   ·exact SS.dies (q9.boundsPanic _ _ _ _)
  |_ => exact SS.halt
 |_ => exact SS.halt
theorem SS.field (H : X.Ok Fb) (t : TypeId) (f : Nat) {x x' : Value} (hx : VR X.F ρ x x') : SS X ρ (Instr.field t x f) (Instr.field t x' f) (fun ρ1 v v' => VR X.F ρ1 v v') := by
 unfold Instr.field
 refine (SS.underlying H t).bind fun ρ2 d d' vg ⟨e, hd⟩ => ?_
 subst e
 cases d with
 |struct fs =>
  simp only
  cases fs[f]? with
  |none => exact SS.halt
  |some fd =>
   simp only
   refine (SS.asAgg (hx.mono vg)).bind fun ρ3 c c' _ hc => SS.part H _ _ hc
 |_ => exact SS.halt
theorem SS.sliceBound {x x' : Value} (hx : VR X.F ρ x x') (y : Nat) (c : BoundsCode) : SS X ρ (Instr.sliceBound x y c) (Instr.sliceBound x' y c) (fun _ n n' => n = n') := by
 unfold Instr.sliceBound
 refine (SS.asIntOf hx).bind fun ρ1 p p' le e => ?_
 subst e
 obtain ⟨k, n⟩ := p
 exact SS.ite (fun _ => SS.pure rfl) (fun _ => SS.dies (q9.boundsPanic _ _ _ _))
def OVR (F : FuncId → Prop) (ρ : Rel) (x x' : Option Value) : Prop := (x = none ∧ x' = none) ∨ ∃ v v', x = some v ∧ x' = some v' ∧ VR F ρ v v'
theorem SS.sliceBounds {lo lo' hi hi' : Option Value} (hlo : OVR X.F ρ lo lo') (hhi : OVR X.F ρ hi hi') (b : Bool) (len cap : Nat) : SS X ρ (Instr.sliceBounds b len cap lo hi none) (Instr.sliceBounds b len cap lo' hi' none) (fun _ n n' => n = n') := by
 unfold Instr.sliceBounds
 have tail : ∀ (ρ3 : Rel) (h : Nat), ρ.le ρ3 → SS X ρ3 (do
   let l ← match lo with
    |some v => Instr.sliceBound v h (if (none : Option Value).isSome then .slice3C else .sliceB)
    |none => Pure.pure 0
   Pure.pure (l, h, cap)) (do
   let l ← match lo' with
    |some v => Instr.sliceBound v h (if (none : Option Value).isSome then .slice3C else .sliceB)
    |none => Pure.pure 0
   Pure.pure (l, h, cap)) (fun _ n n' => n = n') := by
  intro ρ3 h le
  rcases hlo with ⟨rfl, rfl⟩ | ⟨v, v', rfl, rfl, hv⟩
  ·exact SS.pure rfl
  ·exact (SS.sliceBound (hv.mono le) _ _).bind fun _ n n' _ e => SS.pure (by rw [e])
 rcases hhi with ⟨rfl, rfl⟩ | ⟨v, v', rfl, rfl, hv⟩
 ·exact tail ρ len ρ.le_refl
 ·simp only
  refine SS.bind (Q := fun _ n n' => n = cap ∧ n' = cap) (SS.pure ⟨rfl, rfl⟩) fun ρ2 m m' vg ⟨e1, e2⟩ => ?_
  rw [e1, e2]
  refine SS.bind (Q := fun _ n n' => n = n') (SS.sliceBound (hv.mono vg) _ _) fun ρ3 n n' le e => ?_
  subst e
  exact tail ρ3 n (Rel.le_trans vg le)
theorem SS.sliceAt (H : X.Ok Fb) (t : TypeId) {x x' : Value} (hx : VR X.F ρ x x') {lo lo' hi hi' : Option Value} (hlo : OVR X.F ρ lo lo') (hhi : OVR X.F ρ hi hi') : SS X ρ (Instr.sliceAt t x lo hi none) (Instr.sliceAt t x' lo' hi' none) (fun ρ1 v v' => VR X.F ρ1 v v') := by
 have om : ∀ {ρ1 ρ2 : Rel} {a a' : Option Value}, ρ1.le ρ2 → OVR X.F ρ1 a a' → OVR X.F ρ2 a a' := fun le h => h.imp id fun ⟨v, v', h1, h2, h3⟩ => ⟨v, v', h1, h2, h3.mono le⟩
 unfold Instr.sliceAt
 refine (SS.underlying H t).bind fun ρ1 d d' le ⟨e, hd⟩ => ?_
 subst e
 have plain : SS X ρ1 (Instr.slice t x lo hi none) (Instr.slice t x' lo' hi' none) (fun ρ1 v v' => VR X.F ρ1 v v') := by
  unfold Instr.slice
  refine (SS.underlying H t).bind fun ρ2 d d' vg ⟨e, hd⟩ => ?_
  subst e
  have qip := Rel.le_trans le vg
  cases d with
  |string =>
   cases hx with
   |string s =>
    simp only [Option.isSome_none, Bool.false_eq_true, if_false]
    refine (SS.sliceBounds (om qip hlo) (om qip hhi) _ _ _).bind fun ρ3 p p' _ e => ?_
    subst e
    exact SS.pure (.string _)
   |_ => exact SS.halt
  |slice elem =>
   cases hx with
   |jk n c =>
    simp only
    refine (SS.sliceBounds (om qip hlo) (om qip hhi) _ _ _).bind fun ρ3 p p' _ e => ?_
    subst e
    obtain ⟨l, h, m⟩ := p
    simp only
    refine (SS.sizeOf H _).bind fun ρ5 q q' le5 ⟨e, _⟩ => ?_
    subst e
    refine SS.pure ?_
    split
    ·exact .jk _ _
    ·exact .jk _ _
   | @slice b b' o s n c r =>
    simp only
    refine (SS.sliceBounds (om qip hlo) (om qip hhi) _ _ _).bind fun ρ3 p p' le3 e => ?_
    subst e
    obtain ⟨l, h, m⟩ := p
    simp only
    refine (SS.sizeOf H _).bind fun ρ5 q q' le5 ⟨e, _⟩ => ?_
    subst e
    refine SS.pure ?_
    have ar : AR ρ5 ⟨b, o, s⟩ ⟨b', o, s⟩ := ⟨le5 _ _ (le3 _ _ (qip _ _ r)), rfl, rfl⟩
    split
    ·exact ar.slice _ _
    ·exact (ar.add _).slice _ _
   |_ => exact SS.halt
  |pointer arr =>
   simp only
   refine (SS.asAddr (hx.mono qip)).bind fun ρ3 a a' le3 ha => ?_
   refine (SS.underlying H arr).bind fun ρ4 d d' le4 ⟨e, hd⟩ => ?_
   subst e
   have qhy := Rel.le_trans qip (Rel.le_trans le3 le4)
   cases d with
   |array n elem =>
    simp only
    refine (SS.sliceBounds (om qhy hlo) (om qhy hhi) _ _ _).bind fun ρ5 p p' le5 e => ?_
    subst e
    obtain ⟨l, h, m⟩ := p
    simp only
    refine (SS.sizeOf H _).bind fun ρ6 q q' le6 ⟨e, _⟩ => ?_
    subst e
    refine SS.pure ?_
    have ar := ha.mono (Rel.le_trans le4 (Rel.le_trans le5 le6))
    split
    ·exact ar.slice _ _
    ·exact (ar.add _).slice _ _
   |_ => exact SS.halt
  |_ => exact SS.halt
 cases d with
 |array n elem =>
  simp only
  refine (SS.sureAddr (hx.mono le)).bind fun ρ3 a a' le3 ha => ?_
  have jaq := Rel.le_trans le le3
  refine (SS.sliceBounds (om jaq hlo) (om jaq hhi) _ _ _).bind fun ρ5 p p' le5 e => ?_
  subst e
  obtain ⟨l, h, m⟩ := p
  simp only
  refine (SS.sizeOf H _).bind fun ρ6 q q' le6 ⟨e, _⟩ => ?_
  subst e
  refine SS.pure ?_
  have ar := ha.mono (Rel.le_trans le5 le6)
  split
  ·exact ar.slice _ _
  ·exact (ar.add _).slice _ _
 |_ => exact plain
theorem SS.alloc (H : X.Ok Fb) (t : TypeId) (hz : qc9 X.P Fb t = true) : SS X ρ (Instr.alloc t true (.tuple #[])) (Instr.alloc t true (.tuple #[])) (fun ρ1 v v' => VR X.F ρ1 v v') := by
 unfold Instr.alloc
 refine (SS.zeroValue H t hz).bind fun ρ1 z z' _ h => ?_
 exact (SS.newVar t h).bind fun _ a a' _ ha => SS.pure ha.ptr
theorem SS.box (t : TypeId) {v v' : Value} (h : VR X.F ρ v v') : SS X ρ (Instr.box t v) (Instr.box t v') (fun ρ1 v v' => VR X.F ρ1 v v') := by
 unfold Instr.box
 exact (SS.newVar t h).bind fun _ a a' _ ha => SS.pure ha.ptr
inductive PsR (F : FuncId → Prop) (ρ : Rel) : List (Nat × Value) → List (Nat × Value) → Prop
 |nil : PsR F ρ [] []
 |cons {i : Nat} {v v' : Value} {l l' : List (Nat × Value)} : VR F ρ v v' → PsR F ρ l l' → PsR F ρ ((i, v) :: l) ((i, v') :: l')
theorem PsR.mono {F : FuncId → Prop} {ρ' : Rel} (le : ρ.le ρ') : ∀ {l l' : List (Nat × Value)}, PsR F ρ l l' → PsR F ρ' l l'
 |_, _, .nil => .nil
 |_, _, .cons a b => .cons (a.mono le) (b.mono le)
theorem qif {F : FuncId → Prop} (off : Nat) : ∀ (c c' : List Value) (j : Nat) (cs cs' : Array Value), jw F ρ c c' → jw F ρ cs.toList cs'.toList →
  jw F ρ ((c.zipIdx j).foldl (fun cs (p : Value × Nat) => cs.setIfInBounds (off + p.2) p.1) cs).toList ((c'.zipIdx j).foldl (fun cs (p : Value × Nat) => cs.setIfInBounds (off + p.2) p.1) cs').toList
 | [], _, j, cs, cs', .nil, h => h
 |v :: c, _, j, cs, cs', .cons a b, h => by
  rw [List.zipIdx_cons, List.zipIdx_cons, List.foldl_cons, List.foldl_cons]
  exact qif off _ _ (j + 1) _ _ b (h.qtf _ a)
theorem qm3 {F : FuncId → Prop} (place : Nat → Option (Nat × Nat)) : ∀ {l l' : List (Nat × Value)} {c c' : Array Value}, PsR F ρ l l' → jw F ρ c.toList c'.toList →
  (Instr.fill place c l = none ∧ Instr.fill place c' l' = none) ∨ ∃ d d', Instr.fill place c l = some d ∧ Instr.fill place c' l' = some d' ∧ jw F ρ d.toList d'.toList
 |_, _, c, c', .nil, h => .inr ⟨c, c', rfl, rfl, h⟩
 |_, _, c, c', .cons (i := i) (v := v) (v' := v') a b, h => by
  unfold Instr.fill
  cases place i with
  |none => exact .inl ⟨rfl, rfl⟩
  |some p =>
   obtain ⟨off, size⟩ := p
   simp only
   rw [show v'.cells.size = v.cells.size from a.cells.size.symm, show c'.size = c.size from h.size.symm]
   split
   ·exact .inl ⟨rfl, rfl⟩
   ·refine qm3 place b ?_
    rw [← Array.foldl_toList, ← Array.foldl_toList, Array.toList_zipIdx, Array.toList_zipIdx]
    exact qif off _ _ 0 _ _ a.cells h
theorem SS.qxv (H : X.Ok Fb) (fs : List Field) : ∀ {ρ : Rel}, SS X ρ (fs.mapM fun f => do Pure.pure (f.offset, ← Go.sizeOf f.type)) (fs.mapM fun f => do Pure.pure (f.offset, ← Go.sizeOf f.type)) (fun _ l l' => l = l') := by
 induction fs with
 |nil => intro ρ; exact SS.pure rfl
 |cons f fs ih =>
  intro ρ
  rw [List.mapM_cons]
  refine SS.bind (Q := fun _ p p' => p = p') ((SS.sizeOf H _).bind fun _ n n' _ ⟨e, _⟩ => SS.pure (by rw [e])) fun ρ1 p p' _ e => ?_
  subst e
  exact ih.bind fun _ l l' _ e => SS.pure (by rw [e])
theorem SS.build (H : X.Ok Fb) (t : TypeId) (hz : qc9 X.P Fb t = true) {ps ps' : Array (Nat × Value)} (h : PsR X.F ρ ps.toList ps'.toList) : SS X ρ (Instr.build t ps) (Instr.build t ps') (fun ρ1 v v' => VR X.F ρ1 v v') := by
 unfold Instr.build
 refine (SS.zeroValue H t hz).bind fun ρ1 z z' le hzz => ?_
 refine (SS.underlying H t).bind fun ρ2 d d' vg ⟨e, _⟩ => ?_
 subst e
 cases d with
 |struct fs =>
  simp only
  rw [← Array.toArray_toList (xs := fs)]
  simp only [List.mapM_toArray]
  refine SS.bind (Q := fun _ p p' => p = p') ((SS.qxv H fs.toList).bind fun _ l l' _ e => SS.pure (by rw [e])) fun ρ3 p p' le3 e => ?_
  subst e
  rcases qm3 (F := X.F) (ρ := ρ3) (p[·]?) (h.mono (Rel.le_trans le (Rel.le_trans vg le3))) (hzz.cells.mono (Rel.le_trans vg le3)) with ⟨h1, h2⟩ | ⟨c, c', h1, h2, h3⟩
  ·rw [h1, h2]; exact SS.halt
  ·rw [h1, h2]; exact SS.pure (.agg h3)
 |array n elem =>
  simp only
  refine (SS.sizeOf H _).bind fun ρ3 q q' le3 ⟨e, _⟩ => ?_
  subst e
  rcases qm3 (F := X.F) (ρ := ρ3) (fun i => some (i * q, q)) (h.mono (Rel.le_trans le (Rel.le_trans vg le3))) (hzz.cells.mono (Rel.le_trans vg le3)) with ⟨h1, h2⟩ | ⟨c, c', h1, h2, h3⟩
  ·rw [h1, h2]; exact SS.halt
  ·rw [h1, h2]; exact SS.pure (.agg h3)
 |_ => exact SS.halt
end
section
variable {X : Cx} {Fb : FuncId → Bool} {ρ : Rel} {α β : Type}
theorem SS.noView {a a' : Addr} (h : AR ρ a a') : SS X ρ (noView a) (noView a') (fun _ _ _ => True) := by
 unfold Go.noView
 refine (SS.viewAt h.block).bind fun ρ1 q q' le ⟨e, e'⟩ => ?_
 subst e; subst e'
 exact SS.pure trivial
theorem qjs (H : X.Ok Fb) (e : TypeId) : X.P'.cellsOf e = X.P.cellsOf e := by unfold Program.cellsOf; rw [H.tables]
theorem qn5 (H : X.Ok Fb) (e : TypeId) : X.P'.bytesOf e = X.P.bytesOf e := by unfold Program.bytesOf; rw [H.tables]
theorem qoa (H : X.Ok Fb) : X.P'.depth = X.P.depth := by unfold Program.depth; rw [H.tables]
theorem q4y (H : X.Ok Fb) (d : Nat) (e : TypeId) (c o : Nat) (n : Int) : cellAtBytes X.P' d e c o n = cellAtBytes X.P d e c o n := by
 unfold cellAtBytes
 simp only [qjs H, qn5 H, H.boc, H.cob]
theorem SS.byteOf (H : X.Ok Fb) {a a' : Addr} (h : AR ρ a a') : SS X ρ (byteOf a) (byteOf a') (fun _ n n' => n = n') := by
 obtain ⟨b, o, s⟩ := a
 obtain ⟨b', o', s'⟩ := a'
 obtain ⟨hb, h2, h3⟩ := h
 simp only at hb h2 h3
 subst h2; subst h3
 unfold Go.byteOf
 cases s with
 |some s => exact SS.pure rfl
 |none =>
  simp only
  refine SS.program ?_
  refine (SS.noView (AR.of (o := o) (s := none) hb)).bind fun ρ1 _ _ le _ => ?_
  refine (SS.shape (le _ _ hb)).bind fun ρ2 q q' vg e => ?_
  subst e
  cases q with
  |none => exact SS.halt
  |some p =>
   obtain ⟨e, n⟩ := p
   simp only
   rw [qjs H, qn5 H, qoa H, H.boc]
   refine SS.ite (fun _ => SS.pure rfl) (fun _ => ?_)
   cases byteOfCell X.P X.P.depth e (o % X.P.cellsOf e) with
   |none => exact SS.halt
   |some b => exact SS.pure rfl
theorem qbp (t : TypeId) (ptr : Option Addr) (len : Value) : Builtin.unsafeAdd_ #[] t #[.pointer ptr, len] = (do
  let n ← asInt len
  if n = 0 then
   let some a := ptr | unsupported (.unsafePointer "Add: from nil")
   if (← viewAt a.block).isSome then unsupported (.unsafePointer "Add: at a place where no cell lies")
   return .pointer ptr
  if n < 0 then unsupported (.unsafePointer "Add: a move by a count below zero")
  let some a := ptr | unsupported (.unsafePointer "Add")
  let some (e, cells) ← shape a.block | unsupported (.unsafePointer "Add")
  let p ← program
  match cellAtBytes p p.depth e (cells / p.cellsOf e) a.off n with
  |some off => pure (.pointer (some { a with off }))
  |none => unsupported (.unsafePointer "Add")) := rfl
theorem SS.unsafeAdd (H : X.Ok Fb) (t : TypeId) {a a' : Addr} (h : AR ρ a a') {n n' : Value} (hn : VR X.F ρ n n') :
  SS X ρ (Builtin.unsafeAdd_ #[] t #[.pointer (some a), n]) (Builtin.unsafeAdd_ #[] t #[.pointer (some a'), n']) (fun ρ1 v v' => VR X.F ρ1 v v') := by
 rw [qbp, qbp]
 refine (SS.asInt hn).bind fun ρ1 m m' le e => ?_
 subst e
 refine SS.ite (fun _ => ?_) (fun _ => ?_)
 ·refine (SS.viewAt (le _ _ h.block)).bind fun ρ2 q q' vg ⟨e, e'⟩ => ?_
  subst e; subst e'
  exact SS.pure ((h.mono le).mono vg).ptr
 ·refine SS.ite (fun _ => SS.dies (q9.ku (q9.unsupported _))) (fun _ => ?_)
  refine (SS.shape (le _ _ h.block)).bind fun ρ2 q q' vg e => ?_
  subst e
  cases q with
  |none => exact SS.halt
  |some p =>
   obtain ⟨e, c⟩ := p
   simp only
   refine SS.program ?_
   rw [qjs H, qoa H, q4y H, ← h.off]
   cases cellAtBytes X.P X.P.depth e (c / X.P.cellsOf e) a.off m with
   |none => exact SS.halt
   |some off => exact SS.pure (AR.ptr ⟨(Rel.le_trans le vg) _ _ h.block, rfl, h.spot⟩)
theorem SS.asNumber {a a' : Addr} (h : AR ρ a a') (l : Bool) : SS X ρ (asNumber a l) (asNumber a' l) (fun ρ1 v v' => VR X.F ρ1 v v') := by
 obtain ⟨b, o, s⟩ := a
 obtain ⟨b', o', s'⟩ := a'
 obtain ⟨hb, h2, h3⟩ := h
 simp only at hb h2 h3
 subst h2; subst h3
 unfold Go.asNumber
 exact (SS.newObj fun r r' => .number l (.inl hb)).bind fun _ r r' _ hr => SS.pure (.ptr hr)
theorem SS.movedNumber (H : X.Ok Fb) (t : TypeId) {x x' y y' : Value} (hx : VR X.F ρ x x') (hy : VR X.F ρ y y') : SS X ρ (movedNumber t x y) (movedNumber t x' y') (fun ρ1 v v' => VR X.F ρ1 v v') := by
 unfold Go.movedNumber
 refine (SS.underlying H t).bind fun ρ1 d d' le ⟨e, hd⟩ => ?_
 subst e
 have hx1 := hx.mono le
 have hy1 := hy.mono le
 have tail : SS X ρ1 (do
   let .pointer (some n) := x | Builtin.unsafeAdd_ #[] t #[x, y]
   let (a, lost) ← Go.behindNumber n
   match ← Builtin.unsafeAdd_ #[] t #[.pointer (some a), y] with
   | .pointer (some b) => Go.asNumber b lost
   |v => Pure.pure v) (do
   let .pointer (some n) := x' | Builtin.unsafeAdd_ #[] t #[x', y']
   let (a, lost) ← Go.behindNumber n
   match ← Builtin.unsafeAdd_ #[] t #[.pointer (some a), y'] with
   | .pointer (some b) => Go.asNumber b lost
   |v => Pure.pure v) (fun ρ1 v v' => VR X.F ρ1 v v') := by
  cases hx1 with
  | @ptr b b' o s r =>
   simp only
   refine (SS.behindNumber (AR.of r)).bind fun ρ2 p p' vg ⟨h1, h2⟩ => ?_
   obtain ⟨a, l⟩ := p
   obtain ⟨a', l'⟩ := p'
   simp only at h1 h2
   subst h2
   simp only
   refine (SS.unsafeAdd H t h1 (hy1.mono vg)).bind fun ρ3 v v' le3 hv => ?_
   cases hv <;> first | exact SS.asNumber (AR.of ‹_›) _ | exact SS.pure (by first | exact .bool _ | exact .int _ _ | exact .string _ | exact .qai | exact .jk _ _ | exact .slice ‹_› | exact .qa9 | exact .map ‹_› | exact .func ‹_› ‹_› | exact .yield ‹_› | exact .nilFunc | exact .agg ‹_› | exact .tuple ‹_›)
  |qai =>
   simp only
   rw [qbp, qbp]
   refine (SS.asInt hy1).bind fun ρ2 m m' vg e => ?_
   subst e
   refine SS.ite (fun _ => SS.halt) (fun _ => SS.ite (fun _ => SS.dies (q9.ku (q9.unsupported _))) (fun _ => SS.halt))
  |_ => exact SS.halt
 cases d <;> first | exact tail | exact SS.dies (q9.ku (q9.unsupported _))
theorem q9.twoPlaces (H : X.Ok Fb) (a b : Addr) {s' : Sem β} {γ : Type} {f : Nat × Nat → Sem γ} {Q : Rel → γ → β → Prop} : SS X ρ (Op.twoPlaces a b >>= f) s' Q := by
 have jai : ∀ w, (Op.twoPlaces a b).run X.P w = .halt (.unsupported .addressObserved) w := by
  intro w
  unfold Op.twoPlaces
  have hp : ∀ w3, (Go.program).run X.P w3 = .ok X.P w3 := fun _ => rfl
  rw [Sem.run_bind, hp]
  simp only [Result.andThen_ok, H.globals, xzl, ge_iff_le, decide_true, Bool.or_true, if_true]
  rfl
 have key : ∀ w, (Op.twoPlaces a b >>= f).run X.P w = .halt (.unsupported .addressObserved) w := by
  intro w
  rw [Sem.run_bind, jai]
  rfl
 refine ⟨fun w w' v w1 es hw hr => (by rw [key] at hr; cases hr), fun w w' x w1 hw hr => (by rw [key] at hr; cases hr; exact ⟨trivial, KC.refl _⟩), fun w w' _ => ?_⟩
 refine qdd.bind (.quiet fun es => ?_) fun a0 w1 e0 => ?_
 ·unfold Op.twoPlaces
  rw [show ∀ g : Program → Sem (Nat × Nat), ((Go.program >>= g).runT X.P w es) = (g X.P).runT X.P w es from fun _ => rfl]
  simp only [H.globals, xzl, ge_iff_le, decide_true, Bool.or_true, if_true]
  rfl
 ·rw [jai] at e0; cases e0
theorem SS.addrMod (H : X.Ok Fb) (k : IntKind) {a a' : Addr} (h : AR ρ a a') (n : Int) : SS X ρ (Op.addrMod k a n) (Op.addrMod k a' n) (fun ρ1 v v' => VR X.F ρ1 v v') := by
 unfold Op.addrMod
 refine (SS.shape h.block).bind fun ρ1 q q' le e => ?_
 subst e
 cases q with
 |none => exact SS.halt
 |some p =>
  obtain ⟨e, c⟩ := p
  simp only
  refine (SS.typeInfo H e).bind fun ρ2 i i' vg ⟨e, _⟩ => ?_
  subst e
  refine SS.ite (fun _ => SS.dies (q9.ku (q9.unsupported _))) (fun _ => ?_)
  refine (SS.byteOf H ((h.mono le).mono vg)).bind fun ρ3 m m' _ e => ?_
  subst e
  exact SS.pure (.int _ _)
theorem SS.intArith (op : BinOp) (k : IntKind) (x y : Int) : SS X ρ (Op.intArith op k x y) (Op.intArith op k x y) (fun ρ1 v v' => VR X.F ρ1 v v') := by
 cases op <;> first | exact SS.pure (.int _ _) | exact SS.halt
theorem SS.intBits (op : BinOp) (k : IntKind) (x y : Int) : SS X ρ (Op.intBits op k x y) (Op.intBits op k x y) (fun ρ1 v v' => VR X.F ρ1 v v') := by
 cases op <;> first | exact SS.pure (.int _ _) | exact SS.halt
theorem SS.intCmp (op : BinOp) (x y : Int) : SS X ρ (Op.intCmp op x y) (Op.intCmp op x y) (fun ρ1 v v' => VR X.F ρ1 v v') := by
 cases op <;> first | exact SS.pure (.bool _) | exact SS.halt
theorem SS.intDiv (op : BinOp) (k : IntKind) (x y : Int) : SS X ρ (Op.intDiv op k x y) (Op.intDiv op k x y) (fun ρ1 v v' => VR X.F ρ1 v v') := by
 unfold Op.intDiv
 refine SS.ite (fun _ => SS.dies (q9.runtimePanic _)) (fun _ => ?_)
 cases op <;> first | exact SS.pure (.int _ _) | exact SS.halt
theorem SS.shift (op : BinOp) (k yk : IntKind) (x y : Int) : SS X ρ (Op.shift op k x yk y) (Op.shift op k x yk y) (fun ρ1 v v' => VR X.F ρ1 v v') := by
 unfold Op.shift
 refine SS.ite (fun _ => SS.dies (q9.runtimePanic _)) (fun _ => ?_)
 cases op <;> first | exact SS.pure (.int _ _) | exact SS.halt
theorem SS.stringOp (op : BinOp) (x y : ByteArray) : SS X ρ (Op.stringOp op x y) (Op.stringOp op x y) (fun ρ1 v v' => VR X.F ρ1 v v') := by
 cases op <;> first | exact SS.pure (.bool _) | exact SS.halt | exact SS.ite (fun _ => SS.halt) (fun _ => SS.pure (.string _))
theorem SS.unary (op : UnOp) {x x' : Value} (h : VR X.F ρ x x') : SS X ρ (Op.unary op x) (Op.unary op x') (fun ρ1 v v' => VR X.F ρ1 v v') := by
 unfold Op.unary
 cases op <;> cases h <;> first | exact SS.halt | exact SS.intArith _ _ _ _ | exact SS.intBits _ _ _ _ | exact SS.pure (.bool _)
def qqi (P P' : Program) (t : TypeId) (x y : Operand) : Bool :=
 (qfz P P' 8 t && !(P.eqGuardType P.depth t) && !(P'.eqGuardType P'.depth t)) ||
  (match P.underlying t with | some (.pointer _) => true | _ => false) && (match x, y with | .const (.pointer none), _ => true | _, .const (.pointer none) => true | _, _ => false)
theorem SS.equal (H : X.Ok Fb) (t : TypeId) (x y : Operand) (h : qqi X.P X.P' t x y = true) (e e' : Operand → Value) (hx : VR X.F ρ (e x) (e' x)) (hy : VR X.F ρ (e y) (e' y)) (hc : ∀ v, e (.const v) = v) :
  SS X ρ (Op.equal t (e x) (e y)) (Op.equal t (e' x) (e' y)) (fun _ b b' => b = b') := by
 unfold qqi at h
 rw [Bool.or_eq_true] at h
 unfold Op.equal
 rcases h with h | h
 ·simp only [Bool.and_eq_true] at h
  exact SS.equalIn H 8 t h.1.1 _ hx hy
 ·simp only [Bool.and_eq_true] at h
  obtain ⟨h1, h2⟩ := h
  have key : (e x = .pointer none) ∨ (e y = .pointer none) := by
   split at h2
   ·exact .inl (hc _)
   ·exact .inr (hc _)
   ·cases h2
  unfold Op.maxDepth Op.equalIn
  refine (SS.underlying H t).bind fun ρ1 d d' le ⟨ed, hd⟩ => ?_
  subst ed
  rw [hd] at h1
  cases d with
  |pointer el =>
   generalize e x = vx at hx key
   generalize e y = vy at hy key
   generalize e' x = vx' at hx
   generalize e' y = vy' at hy
   rcases key with rfl | rfl
   ·cases hx
    cases hy <;> first | exact SS.pure rfl | exact SS.halt
   ·cases hy
    cases hx <;> first | exact SS.pure rfl | exact SS.halt
  |_ => cases h1
def isEq (op : BinOp) : Bool := match op with | .eql | .neq => true | _ => false
theorem SS.qx0 (H : X.Ok Fb) (t : TypeId) {b b' o : Nat} {s : Option Nat} (r : ρ b b') (k : IntKind) (n : Int) :
  SS X ρ (movedPointer t (.pointer (some ⟨b, o, s⟩)) (.int k n)) (movedPointer t (.pointer (some ⟨b', o, s⟩)) (.int k n)) (fun ρ1 v v' => VR X.F ρ1 v v') := by
 unfold movedPointer
 simp only
 refine (SS.numberAt r).bind fun ρ2 q q' vg hq => ?_
 rcases hq with ⟨rfl, rfl⟩ | ⟨_, _, _, _, rfl, rfl, _⟩
 ·simp only [Option.isSome_none, Bool.false_eq_true, if_false]
  exact SS.unsafeAdd H t (AR.of (vg _ _ r)) (.int _ _)
 ·exact SS.dies (q9.ku (q9.unsupported _))
theorem SS.qo6 (t : TypeId) (k : IntKind) (n : Int) :
  SS X ρ (movedPointer t (.pointer none) (.int k n)) (movedPointer t (.pointer none) (.int k n)) (fun ρ1 v v' => VR X.F ρ1 v v') := by
 show SS X ρ (Builtin.unsafeAdd_ #[] t #[.pointer none, .int k n]) (Builtin.unsafeAdd_ #[] t #[.pointer none, .int k n]) _
 rw [qbp]
 refine (SS.asInt (.int k n)).bind fun ρ2 m m' vg e => ?_
 subst e
 refine SS.ite (fun _ => SS.halt) (fun _ => SS.ite (fun _ => SS.dies (q9.ku (q9.unsupported _))) (fun _ => SS.halt))
theorem qn4 (op : BinOp) (h : isEq op = false) (t : TypeId) (x y : Value) (hx : match x with | .int .. | .float .. | .complex .. | .string .. | .pointer _ => False | _ => True) : q9 (Go.binOp op t x y) := by
 cases op <;> first | (exact Bool.noConfusion h) | (clear h; cases x <;> first | exact hx.elim | (cases y <;> exact q9.halt _ trivial))
theorem SS.binV (H : X.Ok Fb) (op : BinOp) (t : TypeId) {vx vx' vy vy' : Value} (hx : VR X.F ρ vx vx') (hy : VR X.F ρ vy vy') (heq : isEq op = true → SS X ρ (Op.equal t vx vy) (Op.equal t vx' vy') (fun _ b b' => b = b')) :
  SS X ρ (Go.binOp op t vx vy) (Go.binOp op t vx' vy') (fun ρ1 v v' => VR X.F ρ1 v v') := by
 have qio : op = .eql → SS X ρ (do Pure.pure (.bool (← Op.equal t vx vy))) (do Pure.pure (.bool (← Op.equal t vx' vy'))) (fun ρ1 v v' => VR X.F ρ1 v v') := fun ho => (heq (by rw [ho]; rfl)).bind fun _ b b' _ eb => SS.pure (by rw [eb]; exact .bool _)
 have hneq : op = .neq → SS X ρ (do Pure.pure (.bool (!(← Op.equal t vx vy)))) (do Pure.pure (.bool (!(← Op.equal t vx' vy')))) (fun ρ1 v v' => VR X.F ρ1 v v') := fun ho => (heq (by rw [ho]; rfl)).bind fun _ b b' _ eb => SS.pure (by rw [eb]; exact .bool _)
 clear heq
 cases hx with
 |int k a =>
  cases hy with
  |int k' b =>
   clear qio hneq
   unfold Go.binOp
   cases op <;> simp only <;> first
    |exact SS.shift _ _ _ _ _
    |exact SS.ite (fun _ => SS.halt) (fun _ => SS.intArith _ _ _ _)
    |exact SS.ite (fun _ => SS.halt) (fun _ => SS.intDiv _ _ _ _)
    |exact SS.ite (fun _ => SS.halt) (fun _ => SS.intBits _ _ _ _)
    |exact SS.ite (fun _ => SS.halt) (fun _ => SS.intCmp _ _ _)
  |qai =>
   cases op <;> first | exact SS.halt | exact qio rfl | exact hneq rfl | exact SS.movedNumber H t .qai (.int _ _)
  |ptr r =>
   cases op <;> first | exact SS.halt | exact qio rfl | exact hneq rfl | exact SS.movedNumber H t (.ptr r) (.int _ _) | exact (SS.behindNumber (AR.of r)).bind fun ρ2 p p' vg ⟨h1, h2⟩ => SS.addrMod H _ h1 _
  |_ => cases op <;> first | exact SS.halt | exact qio rfl | exact hneq rfl
 |string a =>
  cases hy with
  |string b => clear qio hneq; unfold Go.binOp; cases op <;> simp only <;> exact SS.stringOp _ _ _
  |_ => cases op <;> first | exact SS.halt | exact qio rfl | exact hneq rfl
 |qai =>
  cases hy with
  |int k b =>
   cases op <;> first | exact SS.halt | exact qio rfl | exact hneq rfl | exact SS.movedNumber H t .qai (.int _ _) | skip
   refine (SS.underlying H t).bind fun ρ1 d d' le ⟨ed, _⟩ => ?_
   subst ed
   cases d <;> simp only [Bool.false_eq_true, if_false, if_true] <;> first | exact SS.qo6 t _ _ | exact SS.movedNumber H t .qai (.int _ _)
  |_ => cases op <;> first | exact SS.halt | exact qio rfl | exact hneq rfl
 | @ptr b b' o s r =>
  cases hy with
  |int k n =>
   cases op <;> first | exact SS.halt | exact qio rfl | exact hneq rfl | exact SS.movedNumber H t (.ptr r) (.int _ _) | exact (SS.behindNumber (AR.of r)).bind fun ρ2 p p' vg ⟨h1, h2⟩ => SS.addrMod H _ h1 _ | skip
   refine (SS.underlying H t).bind fun ρ1 d d' le ⟨ed, _⟩ => ?_
   subst ed
   cases d <;> simp only [Bool.false_eq_true, if_false, if_true] <;> first | exact SS.qx0 H t (le _ _ r) _ _ | exact SS.movedNumber H t (.ptr (le _ _ r)) (.int _ _)
  | @ptr c c' o2 s2 r2 =>
   cases op <;> first | exact SS.halt | exact qio rfl | exact hneq rfl | skip
   all_goals
    refine (SS.behindNumber (AR.of r)).bind fun ρ2 p p' vg ⟨h1, h2⟩ => ?_
    refine (SS.behindNumber (AR.of (vg _ _ r2))).bind fun ρ3 q q' le3 ⟨h3, h4⟩ => ?_
    first | (unfold Op.addrSub; exact q9.twoPlaces H _ _) | (unfold Op.addrCmp; exact q9.twoPlaces H _ _)
  |_ => cases op <;> first | exact SS.halt | exact qio rfl | exact hneq rfl
 |_ =>
  cases ho : isEq op with
  |false => exact SS.dies (qn4 op ho t _ _ trivial)
  |true =>
   cases op <;> first | (exact Bool.noConfusion ho) | exact qio rfl | exact hneq rfl
theorem SS.binOp (H : X.Ok Fb) (op : BinOp) (t : TypeId) (x y : Operand) (h : isEq op = true → qqi X.P X.P' t x y = true) (e e' : Operand → Value) (hx : VR X.F ρ (e x) (e' x)) (hy : VR X.F ρ (e y) (e' y)) (hc : ∀ v, e (.const v) = v) :
  SS X ρ (Go.binOp op t (e x) (e y)) (Go.binOp op t (e' x) (e' y)) (fun ρ1 v v' => VR X.F ρ1 v v') :=
 SS.binV H op t hx hy fun ho => SS.equal H t x y (h ho) e e' hx hy hc
end
section
variable {X : Cx} {Fb : FuncId → Bool} {ρ : Rel} {α β : Type}
theorem qcx (P : Program) (w : World) (e : TypeId) (c : Array Value) :
  (do let a ← newRow e c; markStringish a; Pure.pure a : Sem Addr).run P w = .ok ⟨w.heap.size, 0, none⟩ { w with heap := w.heap.push (.cells c e (c.size, c.size + 1)) } := by
 simp only [newRow, markStringish, newObj, shape, freeze, bind, Sem.bind, Sem.run, Pure.pure, World.shape?, Array.getElem?_push_size, World.freeze, Nat.one_ne_zero, if_false]
 congr 1
 congr 1
 refine Array.ext_getElem? fun i => ?_
 rw [Array.getElem?_modify]
 by_cases h : w.heap.size = i
 ·subst h; simp
 ·simp [Array.getElem?_push, h, Ne.symm h]
theorem qet (P : Program) (w : World) (e : TypeId) (c : Array Value) (es : Array Event) :
  (do let a ← newRow e c; markStringish a; Pure.pure a : Sem Addr).runT P w es = (.ok ⟨w.heap.size, 0, none⟩ { w with heap := w.heap.push (.cells c e (c.size, c.size + 1)) }, es) := by
 have h1 := qcx P w e c
 rw [← Sem.runT_fst P _ w es] at h1
 have h2 : ((do let a ← newRow e c; markStringish a; Pure.pure a : Sem Addr).runT P w es).2 = es := by
  simp only [newRow, markStringish, newObj, shape, freeze, bind, Sem.bind, Sem.runT, Pure.pure, World.shape?, Array.getElem?_push_size]
 exact Prod.ext h1 h2
theorem SS.qq1 (e : TypeId) {c c' : Array Value} (h : jw X.F ρ c.toList c'.toList) :
  SS X ρ (do let a ← Go.newRow e c; markStringish a; Pure.pure a : Sem Addr) (do let a ← Go.newRow e c'; markStringish a; Pure.pure a : Sem Addr) (fun ρ1 a a' => AR ρ1 a a') := by
 refine ⟨fun w w' a w1 es hw hr => ?_, fun w w' x w1 hw hr => (by rw [qcx] at hr; cases hr), fun w w' _ => .quiet fun es => by rw [qet]⟩
 rw [qcx] at hr
 cases hr
 have key := SS.newObj (X := X) (ρ := ρ) (o := .cells c e (c.size, c.size + 1)) (o' := .cells c' e (c'.size, c'.size + 1)) (fun r r' => .cells (h.mono (qa7 ρ r r')) (.inl (by rw [h.size])))
 obtain ⟨ρ1, r', w1', es1, h1, h2, h3, h4, h5, h6, h7⟩ := key.1 w w' w.heap.size _ es hw rfl
 have h1' : (Result.ok w'.heap.size { w' with heap := w'.heap.push (.cells c' e (c'.size, c'.size + 1)) }, es) = (Result.ok r' w1', es ++ es1) := h1
 obtain ⟨e1, e2⟩ := Prod.mk.inj h1'
 cases e1
 exact ⟨ρ1, ⟨w'.heap.size, 0, none⟩, _, es1, by rw [qet, ← e2], h2, h3, h4, h5, ⟨h6, rfl, rfl⟩, h7⟩
theorem SS.stringToBytes (e : TypeId) (s : ByteArray) : SS X ρ (Conv.stringToBytes e s) (Conv.stringToBytes e s) (fun ρ1 v v' => VR X.F ρ1 v v') := by
 have eq : ∀ s : ByteArray, Conv.stringToBytes e s = (do
   let cap ← Go.choose (.appendCap s.size 0 e)
   let a ← (do let a ← Go.newRow e (s.data.map (fun b => Value.int .u8 b.toNat) ++ Array.replicate (cap - s.size) (.int .u8 0)); markStringish a; Pure.pure a : Sem Addr)
   Pure.pure (.slice (some a) s.size cap)) := by
  intro s
  unfold Conv.stringToBytes
  simp only [bind_assoc, pure_bind]
 rw [eq]
 refine (SS.choose _).bind fun ρ1 n n' le e => ?_
 subst e
 refine (SS.qq1 _ ?_).bind fun ρ2 a a' _ ha => SS.pure (ha.slice _ _)
 refine jw.qeb (jw.q0k _ _ _ fun _ => .int _ _) ?_
 rw [Array.toList_replicate]
 exact jw.replicate (.int _ _) _
theorem SS.qlm : ∀ {l l' : List Value} {ρ : Rel}, jw X.F ρ l l' → ∀ (s : ByteArray), SS X ρ
  (forIn l s fun c s => do
   let .int .u8 n := c | stuck "bytesToString: byte expected"
   let s := s.push (UInt8.ofNat n.toNat)
   Pure.pure (ForInStep.yield s) : Sem ByteArray)
  (forIn l' s fun c s => do
   let .int .u8 n := c | stuck "bytesToString: byte expected"
   let s := s.push (UInt8.ofNat n.toNat)
   Pure.pure (ForInStep.yield s) : Sem ByteArray) (fun _ b b' => b = b')
 | [], _, _, h, s => by cases h; exact SS.pure rfl
 |v :: l, _, ρ, h, s => by
  cases h with
  |cons a b =>
   rw [List.forIn_cons, List.forIn_cons]
   cases a with
   |int k n =>
    cases k <;> first | exact SS.qlm b _ | exact SS.dies (q9.ku (q9.stuck _))
   |_ => exact SS.dies (q9.ku (q9.stuck _))
theorem SS.bytesToString {x x' : Value} (h : VR X.F ρ x x') : SS X ρ (Conv.bytesToString x) (Conv.bytesToString x') (fun ρ1 v v' => VR X.F ρ1 v v') := by
 unfold Conv.bytesToString
 cases h with
 |jk n c => exact SS.pure (.string _)
 |slice r =>
  simp only
  refine (SS.loadCells (AR.of r) _).bind fun ρ1 c c' le hc => ?_
  rw [← Array.forIn_toList, ← Array.forIn_toList]
  refine SS.bind (SS.qlm hc _) fun _ s s' _ e => ?_
  subst e
  exact SS.pure (.string _)
 |_ => exact SS.halt
def qqa (P : Program) (s d : TypeId) : Bool :=
 match P.underlying s, P.underlying d with
 |some (.int _), some (.int _) => true
 |some (.slice e), some .string => match P.underlying e with | some (.int .u8) => true | _ => false
 |some .string, some (.slice e) => match P.underlying e with | some (.int .u8) => true | _ => false
 |_, _ => false
theorem SS.convert (H : X.Ok Fb) (s d : TypeId) (h : qqa X.P s d = true) {x x' : Value} (hx : VR X.F ρ x x') : SS X ρ (Go.convert s d x) (Go.convert s d x') (fun ρ1 v v' => VR X.F ρ1 v v') := by
 unfold Go.convert
 refine (SS.underlying H s).bind fun ρ1 ds ds' le ⟨e, hs⟩ => ?_
 subst e
 refine (SS.underlying H d).bind fun ρ2 dd dd' vg ⟨e, hd⟩ => ?_
 subst e
 have hx2 := (hx.mono le).mono vg
 unfold qqa at h
 rw [hs, hd] at h
 clear hs hd
 cases ds <;> cases dd <;> first | (exact Bool.noConfusion h) | skip
 ·cases hx2 <;> first | exact SS.pure (.int _ _) | exact SS.halt
 ·rename_i _ e _
  simp only at h
  cases he : X.P.underlying e with
  |none => rw [he] at h; cases h
  |some u =>
   cases hx2 with
   |string s =>
    simp only
    refine (SS.underlying H e).bind fun ρ3 u u' le3 ⟨e, hu⟩ => ?_
    subst e
    rw [hu] at h
    cases u with
    |int k => cases k <;> first | (exact Bool.noConfusion h) | exact SS.stringToBytes _ _
    |_ => exact Bool.noConfusion h
   |_ => exact SS.halt
 ·rename_i e _ _
  simp only at h
  have tail : ∀ {y y' : Value}, VR X.F ρ2 y y' → SS X ρ2 (do
    match ← Go.underlying e with
    | .int .u8 => Conv.bytesToString y
    | .int .i32 => Conv.runesToString y
    |_ => stuck "Convert: a slice of what to string?") (do
    match ← Go.underlying e with
    | .int .u8 => Conv.bytesToString y'
    | .int .i32 => Conv.runesToString y'
    |_ => stuck "Convert: a slice of what to string?") (fun ρ1 v v' => VR X.F ρ1 v v') := by
   intro y y' hy
   refine (SS.underlying H e).bind fun ρ3 u u' le3 ⟨e, hu⟩ => ?_
   subst e
   rw [hu] at h
   cases u with
   |int k => cases k <;> first | (exact Bool.noConfusion h) | exact SS.bytesToString (hy.mono le3)
   |_ => exact Bool.noConfusion h
  cases hx2 with
  |int k n => exact SS.pure (.string _)
  |string s => exact SS.pure (.string _)
  |bool b => exact tail (.bool b)
  |qai => exact tail .qai
  |ptr r => exact tail (.ptr r)
  |jk n c => exact tail (.jk n c)
  |slice r => exact tail (.slice r)
  |qa9 => exact tail .qa9
  |map r => exact tail (.map r)
  |func a b => exact tail (.func a b)
  |yield r => exact tail (.yield r)
  |nilFunc => exact tail .nilFunc
  |agg r => exact tail (.agg r)
  |tuple r => exact tail (.tuple r)
theorem jw.qsf {F : FuncId → Prop} {c c' : Array Value} (h : jw F ρ c.toList c'.toList) (i : Nat) : VR F ρ c[i]! c'[i]! := by
 rw [getElem!_def, getElem!_def]
 rcases h.toA (i := i) with ⟨h1, h2⟩ | ⟨v, v', h1, h2, h3⟩
 ·rw [h1, h2]; exact .bool _
 ·rw [h1, h2]; exact h3
theorem qpp {F : FuncId → Prop} {z z' : Array Value} (h : jw F ρ z.toList z'.toList) (n : Nat) : jw F ρ (Builtin.zeroCells z n).toList (Builtin.zeroCells z' n).toList := by
 unfold Builtin.zeroCells
 rw [show z'.size = z.size from h.size.symm]
 exact jw.q0k _ _ _ fun i => h.qsf _
theorem SS.buildSlice (H : X.Ok Fb) (t elem : TypeId) (ht : X.P.underlying t = some (.slice elem)) (hz : qc9 X.P Fb elem = true) (len : Nat) {ps ps' : Array (Nat × Value)} (h : PsR X.F ρ ps.toList ps'.toList) :
  SS X ρ (Instr.buildSlice t len ps) (Instr.buildSlice t len ps') (fun ρ1 v v' => VR X.F ρ1 v v') := by
 unfold Instr.buildSlice
 refine (SS.underlying H t).bind fun ρ1 d d' le ⟨e, hd⟩ => ?_
 subst e
 rw [ht] at hd; cases hd
 simp only
 refine (SS.sizeOf H _).bind fun ρ2 q q' vg ⟨e, _⟩ => ?_
 subst e
 refine SS.ite (fun _ => SS.dies (q9.ku (q9.unsupported _))) (fun _ => ?_)
 have tail : ∀ (ρ3 : Rel) (z z' : Array Value), ρ2.le ρ3 → jw X.F ρ3 z.toList z'.toList → SS X ρ3 (do
   let some cells := Instr.fill (fun i => some (i * q, q)) ((Array.range (len * q)).map (z[· % z.size]!)) ps.toList
    |stuck "buildSlice: a part of the wrong size"
   Pure.pure (Value.slice (some (← Go.newRow elem cells)) len len)) (do
   let some cells := Instr.fill (fun i => some (i * q, q)) ((Array.range (len * q)).map (z'[· % z'.size]!)) ps'.toList
    |stuck "buildSlice: a part of the wrong size"
   Pure.pure (Value.slice (some (← Go.newRow elem cells)) len len)) (fun ρ1 v v' => VR X.F ρ1 v v') := by
  intro ρ3 z z' le3 hz
  have hc : jw X.F ρ3 ((Array.range (len * q)).map (z[· % z.size]!)).toList ((Array.range (len * q)).map (z'[· % z'.size]!)).toList := by
   rw [show z'.size = z.size from hz.size.symm]
   exact jw.q0k _ _ _ fun i => hz.qsf _
  rcases qm3 (F := X.F) (ρ := ρ3) (fun i => some (i * q, q)) (h.mono (Rel.le_trans le (Rel.le_trans vg le3))) hc with ⟨h1, h2⟩ | ⟨c, c', h1, h2, h3⟩
  ·rw [h1, h2]; exact SS.halt
  ·rw [h1, h2]
   exact (SS.newRow elem h3).bind fun _ a a' _ ha => SS.pure (ha.slice _ _)
 refine SS.ite (fun _ => tail ρ2 #[] #[] ρ2.le_refl .nil) (fun _ => ?_)
 exact (SS.zeroValue H elem hz).bind fun ρ3 z z' le3 hzz => tail ρ3 _ _ le3 hzz.cells
theorem SS.firstCells (size n : Nat) {x x' : Value} (h : VR X.F ρ x x') : SS X ρ (Builtin.firstCells size n x) (Builtin.firstCells size n x') (fun ρ1 c c' => jw X.F ρ1 c.toList c'.toList) := by
 unfold Builtin.firstCells
 cases h with
 |slice r => exact SS.loadCells (AR.of r) _
 |jk a b => exact SS.pure .nil
 |string s => exact SS.pure (jw.q0k _ _ _ fun _ => .int _ _)
 |_ => exact SS.halt
theorem SS.askRoom (n : Nat) : SS X ρ (askRoom n) (askRoom n) (fun _ _ _ => True) := by
 unfold Go.askRoom
 exact SS.ite (fun _ => SS.qxw) (fun _ => SS.pure trivial)
theorem qey (a : Addr) (n : Nat) : zu (Builtin.holdsCells a n) := by
 unfold Builtin.holdsCells
 refine (zu.shape _).bind fun s => ?_
 cases s <;> exact zu.pure _
theorem qlg (size sLen n : Nat) (base : Option Addr) (x : Value) : zu (Builtin.mayShare size sLen n base x) := by
 unfold Builtin.mayShare
 have tail : ∀ t : Bool, zu (do
   if !t then return true
   match x with
   | .slice (some b) _ _ => do Pure.pure (!(← Builtin.holdsCells b (n * size)) || base.any (·.block == b.block))
   |_ => Pure.pure false : Sem Bool) := by
  intro t
  split
  ·exact zu.pure _
  ·split
   ·exact (qey _ _).bind fun _ => zu.pure _
   ·exact zu.pure _
 cases base with
 |none => exact tail true
 |some a =>
  refine (qey _ _).bind fun b => ?_
  exact (zu.frozen _).bind fun _ => tail _
def qgw (P : Program) (Fb : FuncId → Bool) (ats : Array TypeId) : Bool :=
 match ats[0]?, ats[1]? with
 |some s, some x => match P.underlying s, P.underlying x with
  |some (.slice e), some d => qc9 P Fb e && !(match d with | .int _ => true | _ => false)
  |_, _ => false
 |_, _ => false
theorem SS.append (H : X.Ok Fb) (ats : Array TypeId) (t : TypeId) (h : qgw X.P Fb ats = true) {ars zw : Array Value} (ha : jw X.F ρ ars.toList zw.toList) :
  SS X ρ (Builtin.append_ ats t ars) (Builtin.append_ ats t zw) (fun ρ1 v v' => VR X.F ρ1 v v') := by
 unfold qgw at h
 unfold Builtin.append_
 cases h0 : ats[0]? with
 |none => rw [h0] at h; cases h
 |some sT =>
 cases h1 : ats[1]? with
 |none => rw [h0, h1] at h; cases h
 |some xT =>
 rw [h0, h1] at h
 simp only at h
 rcases ha.toA (i := 0) with ⟨a1, a2⟩ | ⟨s, s', a1, a2, hs⟩
 ·rw [a1, a2]; exact SS.halt
 rcases ha.toA (i := 1) with ⟨b1, b2⟩ | ⟨x, x', b1, b2, hx⟩
 ·rw [a1, a2, b1, b2]; exact SS.halt
 rw [a1, a2, b1, b2]
 simp only
 refine (SS.underlying H sT).bind fun ρ1 d d' le ⟨e, hd⟩ => ?_
 subst e
 rw [hd] at h
 cases d <;> first | (exact Bool.noConfusion h) | skip
 rename_i elem _
 simp only at h ⊢
 have nz : ∀ ρ2, SS X ρ2 (Go.underlying xT) (Go.underlying xT) (fun _ d d' => d = d' ∧ (match d with | .int _ => true | _ => false) = false) := fun ρ2 =>
  (SS.underlying H xT).mono fun _ d d' _ ⟨e, hd⟩ => ⟨e, by
   rw [hd] at h
   simp only [Bool.and_eq_true, Bool.not_eq_true'] at h
   exact h.2⟩
 have hz : qc9 X.P Fb elem = true := by
  cases hu : X.P.underlying xT with
  |none => rw [hu] at h; cases h
  |some d => rw [hu] at h; simp only [Bool.and_eq_true] at h; exact h.1
 -- what follows once the slice is known to be one
 have core : ∀ (base base' : Option Addr) (sLen sCap : Nat), ((base = none ∧ base' = none) ∨ ∃ a a', base = some a ∧ base' = some a' ∧ AR ρ1 a a') → VR X.F ρ1 (.slice base sLen sCap) (.slice base' sLen sCap) → ∀ (ρ2 : Rel) (size n : Nat), ρ1.le ρ2 → SS X ρ2
   (do
    if sLen + n ≤ sCap then
     let new ← Builtin.firstCells size n x
     if let some a := base then Go.storeCells (a.add (sLen * size)) new.toList
     Pure.pure (Value.slice base (sLen + n) sCap)
    else
     if ((sLen + n : Nat) : Int) > IntKind.i64.max ∧ (false = true ∨ (← Go.typeInfo elem).bytes = 0) then runtimePanic (.error "growslice: len out of range")
     if Builtin.nextslicecap (sLen + n) sCap * (← Go.typeInfo elem).bytes > 2 ^ 48 then (do
      if !(← Builtin.mayShare size sLen n base x) then mark .noRoom
      unsupported (.resourceLimit "append: a slice or a string whose bytes no memory bears"))
     let newCap ← Go.choose (.appendCap (sLen + n) sCap elem)
     Go.askRoom (newCap * (← Go.typeInfo elem).bytes)
     let old ← Builtin.firstCells size sLen (.slice base sLen sCap)
     let new ← Builtin.firstCells size n x
     let rest := Builtin.zeroCells (← Go.zeroValue elem).cells (newCap - (sLen + n))
     Pure.pure (.slice (some (← Go.newRow elem (old ++ new ++ rest))) (sLen + n) newCap))
   (do
    if sLen + n ≤ sCap then
     let new ← Builtin.firstCells size n x'
     if let some a := base' then Go.storeCells (a.add (sLen * size)) new.toList
     Pure.pure (Value.slice base' (sLen + n) sCap)
    else
     if ((sLen + n : Nat) : Int) > IntKind.i64.max ∧ (false = true ∨ (← Go.typeInfo elem).bytes = 0) then runtimePanic (.error "growslice: len out of range")
     if Builtin.nextslicecap (sLen + n) sCap * (← Go.typeInfo elem).bytes > 2 ^ 48 then (do
      if !(← Builtin.mayShare size sLen n base' x') then mark .noRoom
      unsupported (.resourceLimit "append: a slice or a string whose bytes no memory bears"))
     let newCap ← Go.choose (.appendCap (sLen + n) sCap elem)
     Go.askRoom (newCap * (← Go.typeInfo elem).bytes)
     let old ← Builtin.firstCells size sLen (.slice base' sLen sCap)
     let new ← Builtin.firstCells size n x'
     let rest := Builtin.zeroCells (← Go.zeroValue elem).cells (newCap - (sLen + n))
     Pure.pure (.slice (some (← Go.newRow elem (old ++ new ++ rest))) (sLen + n) newCap)) (fun ρ1 v v' => VR X.F ρ1 v v') := by
  intro base base' sLen sCap hb hsl ρ2 size n vg
  have hx2 := (hx.mono le).mono vg
  refine SS.ite (fun _ => ?_) (fun _ => ?_)
  ·refine (SS.firstCells size n hx2).bind fun ρ3 c c' le3 hc => ?_
   rcases hb with ⟨rfl, rfl⟩ | ⟨a, a', rfl, rfl, ha⟩
   ·exact SS.pure (.jk _ _)
   ·simp only
    refine (SS.storeCells (((ha.mono vg).mono le3).add _) 0 hc).bind fun ρ4 _ _ le4 _ => ?_
    exact SS.pure ((((ha.mono vg).mono le3).mono le4).slice _ _)
  ·refine (SS.typeInfo H elem).bind fun ρ3 i i' le3 ⟨e, _⟩ => ?_
   subst e
   refine SS.ite (fun _ => SS.dies (q9.ku (q9.runtimePanic _))) (fun _ => ?_)
   refine (SS.typeInfo H elem).bind fun ρ4 i i' le4 ⟨e, _⟩ => ?_
   subst e
   refine SS.ite (fun _ => SS.dies (q9.ku (q9.bind (qlg _ _ _ _ _) fun _ => ?_))) (fun _ => ?_)
   ·dsimp only
    split <;> first | exact q9.bind (zu.mark _) fun _ => q9.unsupported _ | exact q9.unsupported _
   refine (SS.choose _).bind fun ρ5 m m' le5 e => ?_
   subst e
   refine (SS.typeInfo H elem).bind fun ρ6 i i' le6 ⟨e, _⟩ => ?_
   subst e
   refine (SS.askRoom _).bind fun ρ7 _ _ le7 _ => ?_
   have jas : ρ2.le ρ7 := Rel.le_trans le3 (Rel.le_trans le4 (Rel.le_trans le5 (Rel.le_trans le6 le7)))
   refine (SS.firstCells size sLen ((hsl.mono vg).mono jas)).bind fun ρ8 c c' le8 hc => ?_
   refine (SS.firstCells size n ((hx2.mono jas).mono le8)).bind fun ρ9 d d' le9 hd => ?_
   refine (SS.zeroValue H elem hz).bind fun ρ10 z z' jar hzz => ?_
   refine (SS.newRow elem ?_).bind fun _ a a' _ ha => SS.pure (ha.slice _ _)
   exact (((hc.mono le9).mono jar).qeb (hd.mono jar)).qeb (qpp hzz.cells _)
 have hs1 := hs.mono le
 have jau : ∀ {ρ2 : Rel}, ρ.le ρ2 → SS X ρ2 (Builtin.lenOf x) (Builtin.lenOf x') (fun _ n n' => n = n') := by
  intro ρ2 vg
  have := hx.mono vg
  cases this <;> first | exact SS.pure rfl | exact SS.halt
 cases hs1 with
 |jk n c =>
  simp only
  refine (SS.sizeOf H elem).bind fun ρ2 q q' vg ⟨e, _⟩ => ?_
  subst e
  refine (nz ρ2).bind fun ρ3 d d' le3 ⟨e, hdn⟩ => ?_
  subst e
  refine SS.bind (Q := fun _ (z z' : Bool) => z = false ∧ z' = false) (SS.pure ⟨by revert hdn; cases d <;> simp, by revert hdn; cases d <;> simp⟩) fun ρ4 z z' le4 ⟨e, e'⟩ => ?_
  subst e; subst e'
  refine SS.ite (fun h => by cases h) (fun _ => ?_)
  refine (jau (Rel.le_trans le (Rel.le_trans vg (Rel.le_trans le3 le4)))).bind fun ρ5 m m' le5 e => ?_
  subst e
  exact core none none n c (.inl ⟨rfl, rfl⟩) (.jk _ _) ρ5 q m (Rel.le_trans vg (Rel.le_trans le3 (Rel.le_trans le4 le5)))
 | @slice b b' o s n c r =>
  simp only
  refine (SS.sizeOf H elem).bind fun ρ2 q q' vg ⟨e, _⟩ => ?_
  subst e
  refine (nz ρ2).bind fun ρ3 d d' le3 ⟨e, hdn⟩ => ?_
  subst e
  refine SS.bind (Q := fun _ (z z' : Bool) => z = false ∧ z' = false) (SS.pure ⟨by revert hdn; cases d <;> simp, by revert hdn; cases d <;> simp⟩) fun ρ4 z z' le4 ⟨e, e'⟩ => ?_
  subst e; subst e'
  refine SS.ite (fun h => by cases h) (fun _ => ?_)
  refine (jau (Rel.le_trans le (Rel.le_trans vg (Rel.le_trans le3 le4)))).bind fun ρ5 m m' le5 e => ?_
  subst e
  exact core (some ⟨b, o, s⟩) (some ⟨b', o, s⟩) n c (.inr ⟨_, _, rfl, rfl, AR.of r⟩) (.slice r) ρ5 q m (Rel.le_trans vg (Rel.le_trans le3 (Rel.le_trans le4 le5)))
 |_ => exact SS.halt
theorem SS.len (H : X.Ok Fb) (ats : Array TypeId) (t : TypeId) {ars zw : Array Value} (ha : jw X.F ρ ars.toList zw.toList) : SS X ρ (Builtin.len_ ats t ars) (Builtin.len_ ats t zw) (fun ρ1 v v' => VR X.F ρ1 v v') := by
 unfold Builtin.len_
 cases h0 : ats[0]? with
 |none =>
  rcases ha.toA (i := 0) with ⟨a1, a2⟩ | ⟨s, s', a1, a2, hs⟩ <;> (rw [a1, a2]; exact SS.halt)
 |some sT =>
 rcases ha.toA (i := 0) with ⟨a1, a2⟩ | ⟨s, s', a1, a2, hs⟩
 ·rw [a1, a2]; exact SS.halt
 rw [a1, a2]
 simp only
 refine (SS.underlying H sT).bind fun ρ1 d d' le ⟨e, hd⟩ => ?_
 subst e
 have ptr : ∀ arr : TypeId, SS X ρ1 (do
   let .array n _ ← Go.underlying arr | stuck "len: pointer to array expected"
   Pure.pure (goInt n)) (do
   let .array n _ ← Go.underlying arr | stuck "len: pointer to array expected"
   Pure.pure (goInt n)) (fun ρ1 v v' => VR X.F ρ1 v v') := fun arr => by
  refine (SS.underlying H arr).bind fun ρ2 d d' vg ⟨e, hd⟩ => ?_
  subst e
  cases d <;> first | exact SS.pure (.int _ _) | exact SS.halt
 have hs1 := hs.mono le
 cases d with
 |map k el =>
  cases hs1 with
  |qa9 => exact SS.pure (.int _ _)
  |map r =>
   simp only
   refine (SS.getObj r).bind fun ρ2 o o' vg ⟨ho, _⟩ => ?_
   cases ho with
   | @map es es' clock hes =>
    have : es'.size = es.size := by simpa using hes.length.symm
    simp only [this]
    exact SS.pure (.int _ _)
   |_ => exact SS.halt
  |_ => exact SS.halt
 |pointer arr => cases hs1 <;> exact ptr arr
 |array n el => cases hs1 <;> exact SS.pure (.int _ _)
 |string => cases hs1 <;> first | exact SS.pure (.int _ _) | exact SS.halt
 |slice el => cases hs1 <;> first | exact SS.pure (.int _ _) | exact SS.halt
 |_ => cases hs1 <;> exact SS.halt
theorem SS.min2 {x x' y y' : Value} (hx : VR X.F ρ x x') (hy : VR X.F ρ y y') : SS X ρ (Builtin.min2 x y) (Builtin.min2 x' y') (fun ρ1 v v' => VR X.F ρ1 v v') := by
 unfold Builtin.min2
 cases hx with
 |int k n => cases hy <;> first | exact SS.pure (.int _ _) | exact SS.halt
 |string s =>
  cases hy with
  |string s2 =>
   simp only
   refine (SS.stringOp _ _ _).bind fun ρ2 v v' vg hv => ?_
   refine (SS.asBool hv).bind fun ρ3 b b' _ e => ?_
   subst e
   refine SS.pure ?_
   split <;> exact .string _
  |_ => exact SS.halt
 |_ => cases hy <;> exact SS.halt
theorem SS.min (ats : Array TypeId) (t : TypeId) {ars zw : Array Value} (ha : jw X.F ρ ars.toList zw.toList) : SS X ρ (Builtin.min_ ats t ars) (Builtin.min_ ats t zw) (fun ρ1 v v' => VR X.F ρ1 v v') := by
 unfold Builtin.min_
 generalize ars.toList = l at ha
 generalize zw.toList = l' at ha
 cases ha with
 |nil => exact SS.halt
 |cons a b =>
  rename_i v v' l l'
  simp only
  clear ars zw
  induction l generalizing l' v v' ρ with
  |nil => cases b; exact SS.pure a
  |cons x l ih =>
   cases b with
   |cons c d =>
    rw [List.foldlM_cons, List.foldlM_cons]
    exact (SS.min2 a c).bind fun ρ1 z z' le hz => ih hz (d.mono le)
inductive NR (X : Cx) (ρ : Rel) : Next → Next → Prop
 |value {v v' : Value} : VR X.F ρ v v' → NR X ρ (.value v) (.value v')
 |skip : NR X ρ .skip .skip
 |enter {f : FuncId} {ars zw : Array Value} : X.F f → jw X.F ρ ars.toList zw.toList → NR X ρ (.enter f ars) (.enter f zw)
 |round {l l' : Nat} {f : FuncId} {ts ts' : Array Value} {a b : Code} : ρ l l' → jw X.F ρ ts.toList ts'.toList → X.C a → X.C b → X.G f → NR X ρ (.round l f ts a b) (.round l' f ts' a b)
theorem SS.callFunc (H : X.Ok Fb) (f : FuncId) (hf : X.F f) {ars zw : Array Value} (ha : jw X.F ρ ars.toList zw.toList) : SS X ρ (callFunc f ars) (callFunc f zw) (fun ρ1 n n' => NR X ρ1 n n') := by
 obtain ⟨fn, fn', h1, h2, h3, h4, h5, h6⟩ := H.calls f hf
 unfold Go.callFunc
 refine SS.program ?_
 rw [h1, h2]
 simp only [h3, h4, h5, h6, Bool.false_eq_true, if_false]
 exact SS.pure (.enter hf ha)
theorem SS.qml {l l' : Nat} (h : ρ l l') {ars zw : Array Value} (ha : jw X.F ρ ars.toList zw.toList) : SS X ρ (Instr.yield l ars) (Instr.yield l' zw) (fun ρ1 n n' => NR X ρ1 n n') := by
 unfold Instr.yield Instr.getLoop
 simp only [bind_assoc]
 refine (SS.getObj h).bind fun ρ1 o o' le ⟨ho, _⟩ => ?_
 cases ho with
 |loop ht hd hp h1 h2 hG =>
  rename_i s pend fn tmps qal params assign body d d'
  simp only [pure_bind]
  rw [show zw.size = ars.size from ha.size.symm]
  refine SS.ite (fun _ => SS.dies (q9.ku (q9.stuck _))) (fun _ => ?_)
  refine SS.pure (.round (le _ _ h) ?_ h1 h2 hG)
  rw [← Array.foldl_toList, ← Array.foldl_toList, Array.toList_zip, Array.toList_zip]
  have key : ∀ (ps : List Tmp) (vs vs' : List Value) (ts ts' : Array Value), jw X.F ρ1 vs vs' → jw X.F ρ1 ts.toList ts'.toList →
    jw X.F ρ1 ((ps.zip vs).foldl (fun tmps (p : Tmp × Value) => tmps.setIfInBounds p.1 p.2) ts).toList ((ps.zip vs').foldl (fun tmps (p : Tmp × Value) => tmps.setIfInBounds p.1 p.2) ts').toList := by
   intro ps
   induction ps with
   |nil => intro vs vs' ts ts' _ ht; exact ht
   |cons p ps ih =>
    intro vs vs' ts ts' hv ht
    cases hv with
    |nil => exact ht
    |cons a b => exact ih _ _ _ _ b (ht.qtf _ a)
  exact key _ _ _ _ _ (ha.mono le) ht
 |_ => exact SS.halt
end
def qft (Fb : FuncId → Bool) : Operand → Bool
 | .tmp _ => true
 | .const v => flat Fb v
 | .global _ => false
 | .func f => Fb f
def qa0 (P P' : Program) (Fb : FuncId → Bool) (wr : Bool) (o : Oper) : Bool :=
 o.op.operands.toList.all (qft Fb) &&
 match o.op with
 | .move _ | .assign _ | .pick .. | .load .. | .store .. | .nilCheck _ | .unOp .. | .slice _ _ _ _ none | .field .. | .indexAddr .. | .index .. | .range .. | .next .. | .entry .. | .extract .. | .box .. | .makeMap _ none => true
 | .alloc t | .build t _ => qc9 P Fb t
 | .buildSlice t _ _ => match P.underlying t with
  |some (.slice e) => qc9 P Fb e
  |_ => false
 | .binOp op t x y _ => !isEq op || qqi P P' t x y
 | .convert s d _ => qqa P s d
 | .makeFunc (.func f) first _ => Fb f && first.isEmpty
 | .fieldAddr s _ f => match P.underlying s with
  |some (.struct fs) => match fs[f]? with
   |some fd => P.cellsOf fd.type != 0
   |none => false
  |_ => false
 | .lookup xt _ _ _ => match P.underlying xt with
  |some (.map k e) => qfz P P' 8 k && qc9 P Fb e
  |_ => false
 | .mapUpdate t _ _ _ | .insert t _ _ _ => wr && match P.underlying t with
  |some (.map k _) => qfz P P' 8 k
  |_ => false
 | .call c => match c.callee with
  | .value _ => true
  | .builtin .len | .builtin .min => true
  | .builtin .append => qgw P Fb c.argTypes
  | .builtin .delete => wr && match c.argTypes[0]? with
   |some t => match P.underlying t with
    |some (.map k _) => qfz P P' 8 k
    |_ => false
   |none => false
  |_ => false
 |_ => false
section
variable {X : Cx} {Fb : FuncId → Bool} {ρ : Rel} {α β : Type}
theorem SS.val {s s' : Sem Value} (h : SS X ρ s s' (fun ρ1 v v' => VR X.F ρ1 v v')) : SS X ρ (do Pure.pure (Next.value (← s))) (do Pure.pure (Next.value (← s'))) (fun ρ1 n n' => NR X ρ1 n n') :=
 h.bind fun _ v v' _ hv => SS.pure (.value hv)
theorem SS.unit {s s' : Sem Unit} (h : SS X ρ s s' (fun _ _ _ => True)) : SS X ρ (do s; Pure.pure Next.skip) (do s'; Pure.pure Next.skip) (fun ρ1 n n' => NR X ρ1 n n') :=
 h.bind fun _ v v' _ _ => SS.pure .skip
theorem SS.eqGuard (op : BinOp) (t : TypeId) (x y : Operand) (h : isEq op = true → qqi X.P X.P' t x y = true) (e e' : Operand → Value) (hx : VR X.F ρ (e x) (e' x)) (hy : VR X.F ρ (e y) (e' y)) (hc : ∀ v, e (.const v) = v) :
  SS X ρ (Go.eqGuard op t x y (e x) (e y)) (Go.eqGuard op t x y (e' x) (e' y)) (fun _ _ _ => True) := by
 have main : isEq op = true → SS X ρ (match e x, e y with
   | .nilIface, .nilIface => do
    if (x matches .const _) || (y matches .const _) then return
    if ← Op.eqGuardIn Op.maxDepth t (e x) (e y) then unsupported (.noEntry "binop/eql: two nil values of an interface type with methods, neither of them the literal nil")
   | .agg _, .agg _ => do
    if !(← Go.program).eqGuardType (← Go.program).depth t then return
    if ← Op.eqGuardIn Op.maxDepth t (e x) (e y) then unsupported (.noEntry "binop/eql: two nil values of an interface type with methods, in a part of a struct or an array")
   |_, _ => Pure.pure ()) (match e' x, e' y with
   | .nilIface, .nilIface => do
    if (x matches .const _) || (y matches .const _) then return
    if ← Op.eqGuardIn Op.maxDepth t (e' x) (e' y) then unsupported (.noEntry "binop/eql: two nil values of an interface type with methods, neither of them the literal nil")
   | .agg _, .agg _ => do
    if !(← Go.program).eqGuardType (← Go.program).depth t then return
    if ← Op.eqGuardIn Op.maxDepth t (e' x) (e' y) then unsupported (.noEntry "binop/eql: two nil values of an interface type with methods, in a part of a struct or an array")
   |_, _ => Pure.pure ()) (fun _ (_ : Unit) (_ : Unit) => True) := by
  intro ho
  have h := h ho
  unfold qqi at h
  rw [Bool.or_eq_true] at h
  have key : (∃ c, e x = .agg c) → (∃ c, e y = .agg c) → X.P.eqGuardType X.P.depth t = false ∧ X.P'.eqGuardType X.P'.depth t = false := by
   intro h1 h2
   rcases h with h | h
   ·simp only [Bool.and_eq_true, Bool.not_eq_true'] at h
    exact ⟨h.1.2, h.2⟩
   ·exfalso
    simp only [Bool.and_eq_true] at h
    obtain ⟨_, h⟩ := h
    obtain ⟨c, h1⟩ := h1
    obtain ⟨d, h2⟩ := h2
    split at h
    ·rw [hc] at h1; cases h1
    ·rw [hc] at h2; cases h2
    ·cases h
  generalize e x = vx at hx key
  generalize e y = vy at hy key
  generalize e' x = vx' at hx
  generalize e' y = vy' at hy
  cases hx with
  |agg hxs =>
   cases hy with
   |agg hys =>
    obtain ⟨k1, k2⟩ := key ⟨_, rfl⟩ ⟨_, rfl⟩
    simp only
    refine SS.program ?_
    refine SS.program ?_
    simp only [k1, k2, Bool.not_false, if_true]
    exact SS.pure trivial
   |_ => exact SS.pure trivial
  |_ => exact SS.pure trivial
 unfold Go.eqGuard
 cases op <;> first | exact SS.pure trivial | exact main rfl
def EvR (F : FuncId → Prop) (Fb : FuncId → Bool) (ρ : Rel) (e e' : Operand → Value) : Prop := (∀ x, qft Fb x = true → VR F ρ (e x) (e' x)) ∧ (∀ v, e (.const v) = v)
theorem qjn {Fb : FuncId → Bool} {F : FuncId → Prop} {e e' : Operand → Value} : ∀ {l : List Operand}, (∀ x ∈ l, VR F ρ (e x) (e' x)) → jw F ρ (l.map e) (l.map e')
 | [], _ => .nil
 |x :: l, h => .cons (h x (by simp)) (qjn (Fb := Fb) fun y hy => h y (by simp [hy]))
theorem qhr {F : FuncId → Prop} {e e' : Operand → Value} : ∀ {l : List (Nat × Operand)}, (∀ x ∈ l, VR F ρ (e x.2) (e' x.2)) → PsR F ρ (l.map fun (i, x) => (i, e x)) (l.map fun (i, x) => (i, e' x))
 | [], _ => .nil
 |(i, x) :: l, h => .cons (h (i, x) (by simp)) (qhr fun y hy => h y (by simp [hy]))
theorem SS.call (H : X.Ok Fb) (wr : Bool) (hw : wr = true → ∀ b, ¬ X.Sh b) (c : Call) (t : TypeId) (e e' : Operand → Value)
  (hops : ∀ x ∈ c.operands.toList, VR X.F ρ (e x) (e' x))
  (h : (match c.callee with
  | .value _ => true
  | .builtin .len | .builtin .min => true
  | .builtin .append => qgw X.P Fb c.argTypes
  | .builtin .delete => wr && match c.argTypes[0]? with
   |some t => match X.P.underlying t with
    |some (.map k _) => qfz X.P X.P' 8 k
    |_ => false
   |none => false
  |_ => false) = true) :
  SS X ρ (do let d ← resolve e c t; invoke d.target d.args) (do let d ← resolve e' c t; invoke d.target d.args) (fun ρ1 n n' => NR X ρ1 n n') := by
 obtain ⟨callee, args, argTypes⟩ := c
 simp only [Call.operands] at hops
 have hargs : jw X.F ρ (args.map e).toList (args.map e').toList := by
  rw [Array.toList_map, Array.toList_map]
  exact qjn (Fb := Fb) fun x hx => hops x (by simp; exact .inr (by simpa using hx))
 unfold resolve
 simp only at h ⊢
 cases callee with
 |invoke r n => cases h
 |value f =>
  simp only
  have hf : VR X.F ρ (e f) (e' f) := hops f (by simp)
  generalize e f = vf at hf
  generalize e' f = vf' at hf
  cases hf with
  |func hF hcs =>
   simp only [Deferred.ofValue]
   refine SS.bind (Q := fun ρ1 d d' => ∃ g cs cs' ars zw, d = ⟨.fn (.func g) cs, ars⟩ ∧ d' = ⟨.fn (.func g) cs', zw⟩ ∧ X.F g ∧ jw X.F ρ1 cs.toList cs'.toList ∧ jw X.F ρ1 ars.toList zw.toList) (SS.pure ⟨_, _, _, _, _, rfl, rfl, hF, hcs, by simpa using hargs⟩) fun ρ1 d d' le hd => ?_
   obtain ⟨g, cs, cs', ars, zw, rfl, rfl, h1, h2, h3⟩ := hd
   exact SS.callFunc H g h1 (h3.qeb h2)
  |yield r =>
   simp only [Deferred.ofValue]
   refine SS.bind (Q := fun ρ1 d d' => ∃ l l' cs cs' ars zw, d = ⟨.fn (.yield l) cs, ars⟩ ∧ d' = ⟨.fn (.yield l') cs', zw⟩ ∧ ρ1 l l' ∧ jw X.F ρ1 ars.toList zw.toList) (SS.pure ⟨_, _, _, _, _, _, rfl, rfl, r, by simpa using hargs⟩) fun ρ1 d d' le hd => ?_
   obtain ⟨l, l', cs, cs', ars, zw, rfl, rfl, h1, h3⟩ := hd
   exact SS.qml h1 h3
  |nilFunc =>
   exact SS.dies (q9.runtimePanic (α := Next) .nilDeref)
  |_ => exact SS.dies (q9.ku (q9.stuck _))
 |builtin b =>
  cases b <;> first | (exact Bool.noConfusion h) | skip
  ·exact SS.val (SS.append H argTypes t h hargs)
  ·simp only [Bool.and_eq_true] at h
   obtain ⟨h1, h2⟩ := h
   cases h0 : argTypes[0]? with
   |none => rw [h0] at h2; cases h2
   |some xt =>
    rw [h0] at h2
    simp only at h2
    cases hu : X.P.underlying xt with
    |none => rw [hu] at h2; cases h2
    |some d =>
     rw [hu] at h2
     cases d <;> first | (exact Bool.noConfusion h2) | exact SS.val (SS.delete H (hw h1) argTypes t xt _ _ h0 hu h2 hargs)
  ·exact SS.val (SS.len H argTypes t hargs)
  ·exact SS.val (SS.min argTypes t hargs)
theorem SS.execOp (H : X.Ok Fb) (wr : Bool) (hw : wr = true → ∀ b, ¬ X.Sh b) (o : Oper) (h : qa0 X.P X.P' Fb wr o = true) (e e' : Operand → Value) (he : EvR X.F Fb ρ e e') :
  SS X ρ (Go.execOp e o) (Go.execOp e' o) (fun ρ1 n n' => NR X ρ1 n n') := by
 unfold qa0 at h
 simp only [Bool.and_eq_true, List.all_eq_true] at h
 obtain ⟨hops, h⟩ := h
 have hv : ∀ x ∈ o.op.operands.toList, VR X.F ρ (e x) (e' x) := fun x hx => he.1 x (hops x hx)
 unfold Go.execOp
 cases hop : o.op with
 |move x => rw [hop] at hv; exact SS.pure (.value (hv x (by simp [Op.operands])))
 |assign x => rw [hop] at hv; exact SS.pure (.value (hv x (by simp [Op.operands])))
 |pick c a b =>
  rw [hop] at hv
  refine SS.bind (SS.asBool (hv c (by simp [Op.operands]))) fun ρ1 z z' le ez => ?_
  subst ez
  refine SS.pure (.value ?_)
  cases z
  ·exact (hv b (by simp [Op.operands])).mono le
  ·exact (hv a (by simp [Op.operands])).mono le
 |alloc t => rw [hop] at h; exact SS.val (SS.alloc H t h)
 |box t x => rw [hop] at hv; exact SS.val (SS.box t (hv x (by simp [Op.operands])))
 |build t ps =>
  rw [hop] at h hv
  refine SS.val (SS.build H t h ?_)
  rw [Array.toList_map, Array.toList_map]
  exact qhr fun x hx => hv x.2 (by simp [Op.operands]; exact ⟨x.1, by simpa using hx⟩)
 |buildSlice t len ps =>
  rw [hop] at h hv
  simp only at h
  cases hu : X.P.underlying t with
  |none => rw [hu] at h; cases h
  |some d =>
   rw [hu] at h
   cases d <;> first | (exact Bool.noConfusion h) | skip
   refine SS.val (SS.buildSlice H t _ hu h len ?_)
   rw [Array.toList_map, Array.toList_map]
   exact qhr fun x hx => hv x.2 (by simp [Op.operands]; exact ⟨x.1, by simpa using hx⟩)
 |load t a =>
  rw [hop] at hv
  refine SS.val ?_
  unfold Instr.loadAt
  exact (SS.sureAddr (hv a (by simp [Op.operands]))).bind fun _ a a' _ ha => SS.loadVar H t ha
 |store t a x =>
  rw [hop] at hv
  refine SS.unit ?_
  unfold Instr.storeAt
  exact (SS.sureAddr (hv a (by simp [Op.operands]))).bind fun _ a a' le ha => SS.storeVar H t ha ((hv x (by simp [Op.operands])).mono le)
 |nilCheck x =>
  rw [hop] at hv
  have hx := hv x (by simp [Op.operands])
  simp only
  generalize e x = vx at hx
  generalize e' x = vx' at hx
  cases hx with
  |qai => exact SS.dies (q9.runtimePanic _)
  |nilFunc => exact SS.dies (q9.runtimePanic _)
  |bool b => exact SS.pure (.value (.bool b))
  |int k n => exact SS.pure (.value (.int k n))
  |string s => exact SS.pure (.value (.string s))
  |ptr r => exact SS.pure (.value (.ptr r))
  |jk n c => exact SS.pure (.value (.jk n c))
  |slice r => exact SS.pure (.value (.slice r))
  |qa9 => exact SS.pure (.value .qa9)
  |map r => exact SS.pure (.value (.map r))
  |func a b => exact SS.pure (.value (.func a b))
  |yield r => exact SS.pure (.value (.yield r))
  |agg r => exact SS.pure (.value (.agg r))
  |tuple r => exact SS.pure (.value (.tuple r))
 |binOp op t x y yt =>
  rw [hop] at h hv
  simp only [Bool.or_eq_true, Bool.not_eq_true'] at h
  have hx := hv x (by simp [Op.operands])
  have hy := hv y (by simp [Op.operands])
  have ho : isEq op = true → qqi X.P X.P' t x y = true := fun hi => h.resolve_left (by rw [hi]; simp)
  refine SS.val ?_
  refine (SS.eqGuard op t x y ho e e' hx hy he.2).bind fun ρ1 _ _ le _ => ?_
  exact SS.binOp H op t x y ho e e' (hx.mono le) (hy.mono le) he.2
 |unOp op t x => rw [hop] at hv; exact SS.val (SS.unary op (hv x (by simp [Op.operands])))
 |convert s d x => rw [hop] at h hv; exact SS.val (SS.convert H s d h (hv x (by simp [Op.operands])))
 |makeFunc fn first cs =>
  rw [hop] at h hv
  cases fn <;> first | (exact Bool.noConfusion h) | skip
  simp only [Bool.and_eq_true, Array.isEmpty_iff] at h
  obtain ⟨h1, rfl⟩ := h
  refine SS.val (SS.pure ?_)
  simp only [List.map_toArray, List.map_nil]
  refine .func (H.fb _ h1) ?_
  rw [Array.toList_map, Array.toList_map]
  exact qjn (Fb := Fb) fun x hx => hv x (by simp [Op.operands]; simpa using hx)
 |makeMap t r =>
  rw [hop] at h
  cases r with
  |some r => exact Bool.noConfusion h
  |none =>
   refine SS.val ?_
   exact (SS.newObj (X := X) (ρ := ρ) (o := .map #[] 0) (o' := .map #[] 0) (fun _ _ => .map .nil)).bind fun _ a a' _ ha => SS.pure (.map ha)
 |slice t x lo hi mx =>
  rw [hop] at h hv
  cases mx with
  |some r => exact Bool.noConfusion h
  |none =>
   have ov : ∀ y : Option Operand, (∀ z, y = some z → VR X.F ρ (e z) (e' z)) → OVR X.F ρ (y.map e) (y.map e') := fun y hy => by
    cases y with
    |none => exact .inl ⟨rfl, rfl⟩
    |some z => exact .inr ⟨_, _, rfl, rfl, hy z rfl⟩
   refine SS.val (SS.sliceAt H t (hv x (by simp [Op.operands])) (ov lo fun z hz => hv z (by simp [Op.operands, hz])) (ov hi fun z hz => hv z (by simp [Op.operands, hz])))
 |fieldAddr s x f =>
  rw [hop] at h hv
  simp only at h
  cases hu : X.P.underlying s with
  |none => rw [hu] at h; cases h
  |some d =>
   rw [hu] at h
   cases d <;> first | (exact Bool.noConfusion h) | skip
   rename_i fs
   simp only at h
   cases hf : fs[f]? with
   |none => rw [hf] at h; cases h
   |some fd =>
    rw [hf] at h
    exact SS.val (SS.fieldAt H s f hu hf (by simpa using h) (hv x (by simp [Op.operands])))
 |field t x f => rw [hop] at hv; exact SS.val (SS.field H t f (hv x (by simp [Op.operands])))
 |indexAddr t x i => rw [hop] at hv; exact SS.val (SS.indexAt H t (hv x (by simp [Op.operands])) (hv i (by simp [Op.operands])))
 |index t x i => rw [hop] at hv; exact SS.val (SS.index H t (hv x (by simp [Op.operands])) (hv i (by simp [Op.operands])))
 |lookup xt x i ok =>
  rw [hop] at h hv
  simp only at h
  cases hu : X.P.underlying xt with
  |none => rw [hu] at h; cases h
  |some d =>
   rw [hu] at h
   cases d <;> first | (exact Bool.noConfusion h) | skip
   simp only [Bool.and_eq_true] at h
   exact SS.val (SS.lookup H xt _ _ hu h.1 h.2 (hv x (by simp [Op.operands])) (hv i (by simp [Op.operands])) ok)
 |mapUpdate t m k x =>
  rw [hop] at h hv
  simp only [Bool.and_eq_true] at h
  obtain ⟨h1, h⟩ := h
  cases hu : X.P.underlying t with
  |none => rw [hu] at h; cases h
  |some d =>
   rw [hu] at h
   cases d <;> first | (exact Bool.noConfusion h) | skip
   exact SS.unit (SS.mapUpdate H (hw h1) t _ _ hu h (hv m (by simp [Op.operands])) (hv k (by simp [Op.operands])) (hv x (by simp [Op.operands])))
 |insert t m k x =>
  rw [hop] at h hv
  have h' : (wr && match X.P.underlying t with
   |some (.map k _) => qfz X.P X.P' 8 k
   |_ => false) = true := h
  clear h
  obtain ⟨h1, h⟩ := (Bool.and_eq_true _ _).mp h'
  cases hu : X.P.underlying t with
  |none => rw [hu] at h; cases h
  |some d =>
   rw [hu] at h
   cases d <;> first | (exact Bool.noConfusion h) | skip
   exact SS.unit (SS.mapUpdate H (hw h1) t _ _ hu h (hv m (by simp [Op.operands])) (hv k (by simp [Op.operands])) (hv x (by simp [Op.operands])))
 |range t x => rw [hop] at hv; exact SS.val (SS.range H t (hv x (by simp [Op.operands])))
 |next it b => rw [hop] at hv; exact SS.val (SS.next H (hv it (by simp [Op.operands])) b _)
 |entry it => rw [hop] at hv; exact SS.val (SS.entry (hv it (by simp [Op.operands])))
 |extract x i =>
  rw [hop] at hv
  have hx := hv x (by simp [Op.operands])
  refine SS.val ?_
  generalize e x = vx at hx
  generalize e' x = vx' at hx
  unfold Instr.extract
  cases hx with
  |tuple hcs =>
   simp only
   rcases hcs.toA (i := i) with ⟨a1, a2⟩ | ⟨v, v', a1, a2, hv⟩
   ·rw [a1, a2]; exact SS.halt
   ·rw [a1, a2]; exact SS.pure hv
  |_ => exact SS.halt
 |call c =>
  rw [hop] at h hv
  exact SS.call H wr hw c o.type e e' (fun x hx => hv x hx) h
 |_ => rw [hop] at h; exact Bool.noConfusion h
end
end
section
open Go Go.Conc
def codeOk (P P' : Program) (Fb : FuncId → Bool) (wr : Bool) : Code → Bool
 | .skip | .exit _ | .ret => true
 | .region _ ops _ => ops.toList.all (qa0 P P' Fb wr)
 | .seq a b => codeOk P P' Fb wr a && codeOk P P' Fb wr b
 | .cond c a b => qft Fb c && (codeOk P P' Fb wr a && codeOk P P' Fb wr b)
 | .block _ b | .loop b => codeOk P P' Fb wr b
 | .rangeFunc f _ a b => qft Fb f && (codeOk P P' Fb wr a && codeOk P P' Fb wr b)
 |_ => false
structure Cx.Set (X : Cx) (Fb : FuncId → Bool) (wr : Bool) (sp : FuncId → Bool) : Prop where
 ok : X.Ok Fb
 c : ∀ c, X.C c ↔ codeOk X.P X.P' Fb wr c = true
 wrs : wr = true → ∀ b, ¬ X.Sh b
 plain : ∀ f, X.F f → sp f = false → ∃ fn c, X.P.funcs[f]? = some fn ∧ X.P'.funcs[f]? = some fn ∧ fn.body = some c ∧ codeOk X.P X.P' Fb wr c = true
inductive IR (X : Cx) (Fb : FuncId → Bool) (wr : Bool) (ρ : Rel) : Item → Item → Prop
 |code {c : Code} : codeOk X.P X.P' Fb wr c = true → IR X Fb wr ρ (.code c) (.code c)
 |inBlock (id : Nat) : IR X Fb wr ρ (.inBlock id) (.inBlock id)
 |inLoop {c : Code} : codeOk X.P X.P' Fb wr c = true → IR X Fb wr ρ (.inLoop c) (.inLoop c)
 |inRegion {ops : Array Oper} (td : List Nat) : ops.toList.all (qa0 X.P X.P' Fb wr) = true → IR X Fb wr ρ (.inRegion ops td) (.inRegion ops td)
 |inRangeFunc {l l' : Nat} : ρ l l' → IR X Fb wr ρ (.inRangeFunc l) (.inRangeFunc l')
 |endRangeFunc {l l' : Nat} : ρ l l' → IR X Fb wr ρ (.endRangeFunc l) (.endRangeFunc l')
 |beginRound : IR X Fb wr ρ .beginRound .beginRound
inductive IsR (X : Cx) (Fb : FuncId → Bool) (wr : Bool) (ρ : Rel) : List Item → List Item → Prop
 |nil : IsR X Fb wr ρ [] []
 |cons {i i' : Item} {l l' : List Item} : IR X Fb wr ρ i i' → IsR X Fb wr ρ l l' → IsR X Fb wr ρ (i :: l) (i' :: l')
inductive DsR (ρ : Rel) : List Deferred → List Deferred → Prop
 |nil : DsR ρ [] []
 |cons {r r' : Nat} {l l' : List Deferred} : ρ r r' → DsR ρ l l' → DsR ρ ({ target := .collected r, args := #[] } :: l) ({ target := .collected r', args := #[] } :: l')
def qfx (ρ : Rel) (x x' : Option Nat) : Prop := (x = none ∧ x' = none) ∨ ∃ l l', x = some l ∧ x' = some l' ∧ ρ l l'
structure FR (X : Cx) (Fb : FuncId → Bool) (wr : Bool) (ρ : Rel) (fr fr' : Frame) : Prop where
 fn : fr'.fn = fr.fn
 same : ∃ f, X.P.funcs[fr.fn]? = some f ∧ X.P'.funcs[fr.fn]? = some f
 tmps : jw X.F ρ fr.tmps.toList fr'.tmps.toList
 todo : IsR X Fb wr ρ fr.todo fr'.todo
 defers : DsR ρ fr.defers fr'.defers
 mode : fr'.mode = fr.mode
 run : fr.mode = .run ∨ fr.mode = .returning
 kind : fr.kind = .normal
 kind' : fr'.kind = .normal
 round : qfx ρ fr.roundOf fr'.roundOf
inductive FsR (X : Cx) (Fb : FuncId → Bool) (wr : Bool) (ρ : Rel) : List Frame → List Frame → Prop
 |nil : FsR X Fb wr ρ [] []
 |cons {f f' : Frame} {l l' : List Frame} : FR X Fb wr ρ f f' → FsR X Fb wr ρ l l' → FsR X Fb wr ρ (f :: l) (f' :: l')
section
variable {X : Cx} {Fb : FuncId → Bool} {wr : Bool} {sp : FuncId → Bool} {ρ ρ' : Rel}
theorem IR.mono (h : ρ.le ρ') {i i' : Item} (k : IR X Fb wr ρ i i') : IR X Fb wr ρ' i i' := by
 cases k with
 |code c => exact .code c
 |inBlock id => exact .inBlock id
 |inLoop c => exact .inLoop c
 |inRegion td c => exact .inRegion td c
 |inRangeFunc r => exact .inRangeFunc (h _ _ r)
 |endRangeFunc r => exact .endRangeFunc (h _ _ r)
 |beginRound => exact .beginRound
theorem IsR.mono (h : ρ.le ρ') : ∀ {l l' : List Item}, IsR X Fb wr ρ l l' → IsR X Fb wr ρ' l l'
 |_, _, .nil => .nil
 |_, _, .cons a b => .cons (a.mono h) (b.mono h)
theorem DsR.mono (h : ρ.le ρ') : ∀ {l l' : List Deferred}, DsR ρ l l' → DsR ρ' l l'
 |_, _, .nil => .nil
 |_, _, .cons a b => .cons (h _ _ a) (b.mono h)
theorem qfx.mono (h : ρ.le ρ') {x x' : Option Nat} (k : qfx ρ x x') : qfx ρ' x x' := k.imp id fun ⟨l, l', a, b, c⟩ => ⟨l, l', a, b, h _ _ c⟩
theorem FR.mono (h : ρ.le ρ') {f f' : Frame} (k : FR X Fb wr ρ f f') : FR X Fb wr ρ' f f' :=
 ⟨k.fn, k.same, k.tmps.mono h, k.todo.mono h, k.defers.mono h, k.mode, k.run, k.kind, k.kind', k.round.mono h⟩
theorem FsR.mono (h : ρ.le ρ') : ∀ {l l' : List Frame}, FsR X Fb wr ρ l l' → FsR X Fb wr ρ' l l'
 |_, _, .nil => .nil
 |_, _, .cons a b => .cons (a.mono h) (b.mono h)
theorem FR.finish {f f' : Frame} (k : FR X Fb wr ρ f f') {v v' : Value} (hv : VR X.F ρ v v') : FR X Fb wr ρ (f.finish v) (f'.finish v') := by
 obtain ⟨fn, tmps, todo, defers, mode, kind, ro⟩ := f
 obtain ⟨fn', qal, todo', defers', qcj, kind', ro'⟩ := f'
 obtain ⟨k1, k2, k3, k4, k5, k6, k7, k8, k9, k10⟩ := k
 simp only at k1 k2 k3 k4 k5 k6 k7 k8 k9 k10
 subst k1
 cases k4 with
 |nil => exact ⟨rfl, k2, k3, .nil, k5, k6, k7, k8, k9, k10⟩
 |cons a b =>
  cases a with
  |code c => exact ⟨rfl, k2, k3, .cons (.code c) b, k5, k6, k7, k8, k9, k10⟩
  |inBlock id => exact ⟨rfl, k2, k3, .cons (.inBlock id) b, k5, k6, k7, k8, k9, k10⟩
  |inLoop c => exact ⟨rfl, k2, k3, .cons (.inLoop c) b, k5, k6, k7, k8, k9, k10⟩
  | @inRegion ops td c =>
   cases td with
   |nil => exact ⟨rfl, k2, k3, .cons (.inRegion [] c) b, k5, k6, k7, k8, k9, k10⟩
   |cons i td =>
    refine ⟨rfl, k2, ?_, .cons (.inRegion td c) b, k5, k6, k7, k8, k9, k10⟩
    simp only [Frame.finish]
    split
    ·exact k3.qtf _ hv
    ·exact k3
  |inRangeFunc r => exact ⟨rfl, k2, k3, .cons (.endRangeFunc r) b, k5, k6, k7, k8, k9, k10⟩
  |endRangeFunc r => exact ⟨rfl, k2, k3, .cons (.endRangeFunc r) b, k5, k6, k7, k8, k9, k10⟩
  |beginRound => exact ⟨rfl, k2, k3, b, k5, k6, k7, k8, k9, k10⟩
theorem FR.with {f f' : Frame} (k : FR X Fb wr ρ f f') {td td' : List Item} (h : IsR X Fb wr ρ td td') : FR X Fb wr ρ { f with todo := td } { f' with todo := td' } :=
 ⟨k.fn, k.same, k.tmps, h, k.defers, k.mode, k.run, k.kind, k.kind', k.round⟩
def Bot (l : List Frame) : Prop := ∀ f, l.getLast? = some f → f.roundOf = none
theorem Bot.cons {f g : Frame} {l : List Frame} (h : Bot (g :: l)) : Bot (f :: g :: l) := fun x hx => h x (by rw [List.getLast?_cons_cons] at hx; exact hx)
theorem Bot.tail {f g : Frame} {l : List Frame} (h : Bot (f :: g :: l)) : Bot (g :: l) := fun x hx => h x (by rw [List.getLast?_cons_cons]; exact hx)
theorem Bot.swap {f g : Frame} {l : List Frame} (e : g.roundOf = f.roundOf) (h : Bot (f :: l)) : Bot (g :: l) := by
 cases l with
 |nil => intro x hx; simp at hx; subst hx; rw [e]; exact h f (by simp)
 |cons y l => exact h.tail.cons
theorem qcn (f : Frame) (v : Value) : (f.finish v).roundOf = f.roundOf := by
 unfold Frame.finish
 split <;> rfl
def Marked (w : World) (fr : Frame) : Prop := ∀ d ∈ fr.defers, ∃ r, d.target = .collected r ∧ Clean w r
theorem Marked.keep {w w1 : World} {fr : Frame} (h : Marked w fr) (k : KC w w1) : Marked w1 fr := fun d hd => let ⟨r, h1, h2⟩ := h d hd; ⟨r, h1, k r h2⟩
theorem WR.clean {X : Cx} {ρ : Rel} {w w' : World} (hw : WR X ρ w w') {r r' : Nat} (h : ρ r r') : Clean w r := fun d ds e => by
 obtain ⟨o, o', h1, _, h3⟩ := hw.heap h
 rw [e] at h1
 cases h1
 cases h3
theorem DsR.marked {X : Cx} {ρ : Rel} {w w' : World} (hw : WR X ρ w w') {l l' : List Deferred} (h : DsR ρ l l') : ∀ d ∈ l, ∃ r, d.target = .collected r ∧ Clean w r := by
 induction h with
 |nil => intro d hd; cases hd
 |cons a b ih => intro d hd; rcases List.mem_cons.1 hd with rfl | hd; exact ⟨_, rfl, hw.clean a⟩; exact ih d hd
theorem FR.marked {X : Cx} {Fb : FuncId → Bool} {wr : Bool} {ρ : Rel} {f f' : Frame} {w w' w1 : World} (h : FR X Fb wr ρ f f') (hw : WR X ρ w w') (k : KC w w1) : Marked w1 f := Marked.keep (w := w) (h.defers.marked hw) k
theorem FsR.marked {X : Cx} {Fb : FuncId → Bool} {wr : Bool} {ρ : Rel} {w w' w1 : World} (hw : WR X ρ w w') (k : KC w w1) : ∀ {l l' : List Frame}, FsR X Fb wr ρ l l' → ∀ f ∈ l, Marked w1 f
 |_, _, .nil, f, hf => by cases hf
 |_, _, .cons a b, f, hf => by
  rcases List.mem_cons.1 hf with rfl | hf
  ·exact a.marked hw k
  ·exact FsR.marked hw k b f hf
inductive Out (X : Cx) (Fb : FuncId → Bool) (wr : Bool) (sp : FuncId → Bool) (base base' : List Frame) (ρ : Rel) (w w' : World) (r' : GStep) : GStep → Prop
 |nice {jv qwv : Frame} {up1 qrs : List Frame} {ρ1 : Rel} {w1 w1' : World} {es es' : Array Event} :
   r' = .go (G qwv (qrs ++ base')) w1' es' → FR X Fb wr ρ1 jv qwv → FsR X Fb wr ρ1 up1 qrs → WR X ρ1 w1 w1' → Eff X ρ ρ1 w' w1' w → w.heap.size ≤ w1.heap.size → (∀ e ∈ es', qhn X ρ1 e) → NB w1 → Bot (jv :: up1) →
   Out X Fb wr sp base base' ρ w w' r' (.go (G jv (up1 ++ base)) w1 es)
 |special {jv qwv : Frame} {up1 qrs : List Frame} {f : FuncId} {ars zw : Array Value} {ρ1 : Rel} {w1 w1' : World} {es es' : Array Event} : X.F f → sp f = true →
   r' = .go (G (Frame.enter X.P' f zw .normal) (qwv :: qrs ++ base')) w1' es' → jw X.F ρ1 ars.toList zw.toList → FR X Fb wr ρ1 jv qwv → FsR X Fb wr ρ1 up1 qrs → WR X ρ1 w1 w1' → Eff X ρ ρ1 w' w1' w → w.heap.size ≤ w1.heap.size → (∀ e ∈ es', qhn X ρ1 e) → NB w1 → Bot (jv :: up1) →
   Out X Fb wr sp base base' ρ w w' r' (.go (G (Frame.enter X.P f ars .normal) (jv :: up1 ++ base)) w1 es)
 |panic {jv : Frame} {up1 : List Frame} {chain : List PanicEntry} {w1 : World} {es : Array Event} : Marked w1 jv → (∀ f ∈ up1, Marked w1 f) → Out X Fb wr sp base base' ρ w w' r' (.go (G { jv with mode := .panicking chain } (up1 ++ base)) w1 es)
 |ended {o : Outcome} {w1 : World} {es : Array Event} : Out X Fb wr sp base base' ρ w w' r' (.ended o w1 es)
theorem Out.after {base base' : List Frame} {ρ0 : Rel} {w0 w0' w w' : World} {r' : GStep} {s1 : GStep} {es0 : Array Event} (h : Out X Fb wr sp base base' ρ w w' r' s1) (he : Eff X ρ0 ρ w0' w' w0) (hsz : w0.heap.size ≤ w.heap.size) (hev : ∀ e ∈ es0, qhn X ρ e) :
  Out X Fb wr sp base base' ρ0 w0 w0' (GStep.after es0 r') s1 := by
 cases h with
 |nice e h1 h2 h3 h4 h5 h6 h7 h8 =>
  subst e
  refine .nice rfl h1 h2 h3 (he.trans h4 hsz) (xlt hsz h5) (fun e hm => ?_) h7 h8
  rcases Array.mem_append.1 hm with hm | hm
  ·exact (hev e hm).mono h4.le
  ·exact h6 e hm
 |special k1 k2 e h0 h1 h2 h3 h4 h5 h6 h7 h8 =>
  subst e
  refine .special k1 k2 rfl h0 h1 h2 h3 (he.trans h4 hsz) (xlt hsz h5) (fun e hm => ?_) h7 h8
  rcases Array.mem_append.1 hm with hm | hm
  ·exact (hev e hm).mono h4.le
  ·exact h6 e hm
 |panic h1 h2 => exact .panic h1 h2
 |ended => exact .ended
theorem qd5 {P : Program} {fn : FuncId} {es : Array Event} {e : Event} (h : e ∈ seen P fn es) : e ∈ es := by
 have key : ∀ (l : List Event) (f : Bool × Array Event → Event → Bool × Array Event) (x : Bool × Array Event), (∀ y e', (f y e').2 = y.2 ∨ (f y e').2 = y.2.push e') → e ∈ (l.foldl f x).2 → e ∈ x.2 ∨ e ∈ l := by
  intro l
  induction l with
  |nil => intro f x _ h; exact .inl h
  |cons y l ih =>
   intro f x hf h
   rcases ih f _ hf h with h' | h'
   ·rcases hf x y with e1 | e1
    ·rw [e1] at h'; exact .inl h'
    ·rw [e1] at h'
     rcases Array.mem_push.1 h' with h'' | h''
     ·exact .inl h''
     ·exact .inr (by simp [h''])
   ·exact .inr (by simp [h'])
 dsimp only [seen] at h
 rw [← Array.foldl_toList] at h
 have h2 := key es.toList _ _ (by
  rintro ⟨q, kept⟩ e'
  dsimp only
  split
  ·exact .inl rfl
  ·dsimp only
   split
   ·exact .inl rfl
   ·exact .inr rfl) h
 rcases h2 with h' | h'
 ·simp at h'
 ·simpa using h'
theorem qod (S : X.Set Fb wr sp) {f : FuncId} (hf : X.F f) (hs : sp f = false) {ars zw : Array Value} (ha : jw X.F ρ ars.toList zw.toList) :
  FR X Fb wr ρ (Frame.enter X.P f ars .normal) (Frame.enter X.P' f zw .normal) := by
 obtain ⟨fn, c, h1, h2, h3, h4⟩ := S.plain f hf hs
 unfold Frame.enter
 simp only [h1, h2]
 refine ⟨rfl, ⟨fn, h1, h2⟩, ?_, ?_, .nil, rfl, .inl rfl, rfl, rfl, .inl ⟨rfl, rfl⟩⟩
 ·refine ha.qeb ?_
  rw [ha.size, Array.toList_replicate]
  exact jw.replicate qeq _
 ·simp only [Option.bind_some, h3, Option.getD_some]
  exact .cons (.code h4) .nil
theorem qht (S : X.Set Fb wr sp) {base base' up up' : List Frame} {fr fr' : Frame} {w w' : World} (hf : FR X Fb wr ρ fr fr') (hu : FsR X Fb wr ρ up up') (hw : WR X ρ w w') (hn : NB w) (hm : fr.mode = .run) (hB : Bot (fr :: up))
  {s s' : Sem Next} (hs : SS X ρ s s' (fun ρ1 n n' => NR X ρ1 n n')) {s1 : GStep}
  (hstep : stepG.apply X.P true fr (up ++ base) none s w = s1) :
  Out X Fb wr sp base base' ρ w w' (stepG.apply X.P' true fr' (up' ++ base') none s' w') s1 := by
 have raised : ∀ vs, fr.raise vs = { fr with mode := .panicking vs } := fun vs => by unfold Frame.raise; rw [hm]
 have e1 : (fr.kind == CallKind.early) = false := by rw [hf.kind]; rfl
 have e2 : (fr'.kind == CallKind.early) = false := by rw [hf.kind']; rfl
 cases hr : s.run X.P w with
 |halt h wx =>
  obtain ⟨qcw, hnb⟩ := hs.2 w w' h wx hw hr
  have hr' : (s.runT X.P w #[]).1 = .halt h wx := by rw [Sem.runT_fst]; exact hr
  unfold stepG.apply at hstep
  simp only [if_true] at hstep
  rw [show s.runT X.P w #[] = (.halt h wx, (s.runT X.P w #[]).2) from by rw [← hr']] at hstep
  cases h with
  |panic v =>
   simp only [GStep.after] at hstep
   rw [raised] at hstep
   cases hstep
   exact .panic (hf.marked hw hnb) (FsR.marked hw hnb hu)
  |unsupported u =>
   cases u with
   |initOrder b => exact qcw.elim
   |_ => simp only [GStep.after] at hstep; cases hstep; exact .ended
  |stuck m => simp only [GStep.after] at hstep; cases hstep; exact .ended
  |_ => exact qcw.elim
 |ok n wx =>
  obtain ⟨ρ1, n', w1', es1, h1, h2, h3, h4, h5, h6, h7⟩ := hs.1 w w' n wx #[] hw hr
  have hr' : s.runT X.P w #[] = (.ok n wx, (s.runT X.P w #[]).2) := by
   have : (s.runT X.P w #[]).1 = .ok n wx := by rw [Sem.runT_fst]; exact hr
   rw [← this]
  have hev : ∀ e ∈ seen X.P' fr'.fn (#[] ++ es1), qhn X ρ1 e := fun e he => h5 e (by simpa using qd5 he)
  unfold stepG.apply at hstep ⊢
  simp only [if_true] at hstep ⊢
  rw [hr'] at hstep
  rw [h1]
  simp only [e1, e2, Bool.false_eq_true, if_false] at hstep ⊢
  have hf1 := hf.mono h3.le
  have hu1 := hu.mono h3.le
  cases h6 with
  |value hv =>
   simp only [GStep.after] at hstep ⊢
   cases hstep
   exact .nice rfl (hf1.finish hv) hu1 h2 h3 h4 (by simpa using hev) trivial (hB.swap (qcn _ _))
  |skip =>
   simp only [GStep.after] at hstep ⊢
   cases hstep
   exact .nice rfl (hf1.finish qeq) hu1 h2 h3 h4 (by simpa using hev) trivial (hB.swap (qcn _ _))
  | @enter f ars zw hF ha =>
   have fin : ∀ (k k' : CallKind), k = .normal → k' = .normal → GStep.go { frame := Frame.enter X.P f ars k, callers := fr :: (up ++ base), status := .running, dying := none } wx (seen X.P fr.fn (s.runT X.P w #[]).2 ++ #[]) = s1 →
     Out X Fb wr sp base base' ρ w w' (.go { frame := Frame.enter X.P' f zw k', callers := fr' :: (up' ++ base'), status := .running, dying := none } w1' (seen X.P' fr'.fn (#[] ++ es1) ++ #[])) s1 := by
    intro k k' hk hk' hst
    subst hk; subst hk'
    cases hst
    cases hsp : sp f with
    |true => exact .special hF hsp rfl ha hf1 hu1 h2 h3 h4 (by simpa using hev) trivial hB
    |false => exact .nice (up1 := fr :: up) (qrs := fr' :: up') rfl (qod S hF hsp ha) (.cons hf1 hu1) h2 h3 h4 (by simpa using hev) trivial hB.cons
   simp only [GStep.after] at hstep ⊢
   refine fin _ _ ?_ ?_ hstep
   ·have := hf.todo
    cases h : fr.todo with
    |nil => rfl
    |cons i l =>
     rw [h] at this
     cases i <;> first | rfl | (exfalso; generalize fr'.todo = l' at this; cases this with | cons a b => cases a)
   ·have := hf.todo
    cases h : fr'.todo with
    |nil => rfl
    |cons i l =>
     rw [h] at this
     cases i <;> first | rfl | (exfalso; generalize fr.todo = l' at this; cases this with | cons a b => cases a)
  | @round l l' f ts ts' a b hl ht ha hb hsame =>
   simp only [GStep.after] at hstep ⊢
   cases hstep
   refine .nice (up1 := fr :: up) (qrs := fr' :: up') rfl ?_ (.cons hf1 hu1) h2 h3 h4 (by simpa using hev) trivial hB.cons
   obtain ⟨ff, g1, g2⟩ := hsame
   exact ⟨rfl, ⟨ff, g1, g2⟩, ht, .cons (.code ((S.c _).1 ha)) (.cons .beginRound (.cons (.code ((S.c _).1 hb)) .nil)), .nil, rfl, .inl rfl, rfl, rfl, .inr ⟨_, _, rfl, rfl, hl⟩⟩
end
section
variable {X : Cx} {Fb : FuncId → Bool} {wr : Bool} {sp : FuncId → Bool} {ρ ρ' : Rel}
theorem SS.beginRound {l l' : Nat} (h : ρ l l') : SS X ρ (Instr.beginRound l) (Instr.beginRound l') (fun _ _ _ => True) := by
 unfold Instr.beginRound Instr.getLoop
 simp only [bind_assoc]
 refine (SS.getObj h).bind fun ρ1 o o' le ⟨ho, hsh, _⟩ => ?_
 cases ho with
 | @loop s pend fn tmps qal params assign body d d' a b c e f g =>
  have ns : ¬ X.Sh l := fun hs => by obtain ⟨_, _, e⟩ := hsh hs; cases e
  simp only [pure_bind]
  refine (SS.setObj (le _ _ h) (.loop a b c e f g) ns).bind fun ρ2 _ _ vg _ => ?_
  cases s <;> first | exact SS.pure trivial | exact SS.dies (q9.runtimePanic _)
 |_ => exact SS.halt
theorem SS.endRound {l l' : Nat} (h : ρ l l') (jump : Option Code) (hj : ∀ c, jump = some c → X.C c) : SS X ρ (Instr.endRound l jump) (Instr.endRound l' jump) (fun ρ1 v v' => VR X.F ρ1 v v') := by
 unfold Instr.endRound Instr.getLoop
 simp only [bind_assoc]
 refine (SS.getObj h).bind fun ρ1 o o' le ⟨ho, hsh, _⟩ => ?_
 cases ho with
 | @loop s pend fn tmps qal params assign body d d' a b c e f g =>
  have ns : ¬ X.Sh l := fun hs => by obtain ⟨_, _, e⟩ := hsh hs; cases e
  simp only [pure_bind]
  exact (SS.setObj (le _ _ h) (.loop a b hj e f g) ns).bind fun ρ2 _ _ vg _ => SS.pure (.bool _)
 |_ => exact SS.halt
theorem SS.endLoop {l l' : Nat} (h : ρ l l') : SS X ρ (Instr.endLoop l) (Instr.endLoop l') (fun _ j j' => j = j' ∧ ∀ c, j = some c → X.C c) := by
 unfold Instr.endLoop Instr.getLoop
 simp only [bind_assoc]
 refine (SS.getObj h).bind fun ρ1 o o' le ⟨ho, hsh, _⟩ => ?_
 cases ho with
 | @loop s pend fn tmps qal params assign body d d' a b c e f g =>
  have ns : ¬ X.Sh l := fun hs => by obtain ⟨_, _, e⟩ := hsh hs; cases e
  simp only [pure_bind]
  refine SS.ite (fun _ => SS.dies (q9.ku (q9.runtimePanic _))) (fun _ => ?_)
  exact (SS.setObj (le _ _ h) (.loop a b c e f g) ns).bind fun ρ2 _ _ vg _ => SS.pure ⟨rfl, c⟩
 |_ => exact SS.halt
theorem SS.takeDeferred {l l' : Nat} (h : ρ l l') : SS X ρ (Instr.takeDeferred l) (Instr.takeDeferred l') (fun _ j j' => j = [] ∧ j' = []) := by
 unfold Instr.takeDeferred
 refine (SS.getObj h).bind fun ρ1 o o' le ⟨ho, hsh, _⟩ => ?_
 cases ho with
 |deferred =>
  have ns : ¬ X.Sh l := fun hs => by obtain ⟨_, _, e⟩ := hsh hs; cases e
  exact (SS.setObj (le _ _ h) .xw ns).bind fun ρ2 _ _ vg _ => SS.pure ⟨rfl, rfl⟩
 |_ => exact SS.halt
theorem SS.enterLoop {fn : FuncId} (hG : X.G fn) {ts ts' : Array Value} (ht : jw X.F ρ ts.toList ts'.toList) (params : Array Tmp) {assign body : Code} (ha : X.C assign) (hb : X.C body) {r r' : Option Nat} (hr : qfx ρ r r') :
  SS X ρ (Instr.enterLoop fn ts params assign body r) (Instr.enterLoop fn ts' params assign body r') (fun ρ1 p p' => ρ1 p.1 p'.1 ∧ DsR ρ1 p.2 p'.2) := by
 unfold Instr.enterLoop
 have tail : ∀ (ρ1 : Rel) (d d' : Nat) (m m' : List Deferred), ρ.le ρ1 → ρ1 d d' → DsR ρ1 m m' → SS X ρ1 (do Pure.pure (← Go.newObj (.loop { state := .ready, pending := none, fn, tmps := ts, params, assign, body, defers := d }), m))
   (do Pure.pure (← Go.newObj (.loop { state := .ready, pending := none, fn, tmps := ts', params, assign, body, defers := d' }), m')) (fun ρ1 p p' => ρ1 p.1 p'.1 ∧ DsR ρ1 p.2 p'.2) := by
  intro ρ1 d d' m m' le hd hm
  refine (SS.newObj (fun a b => .loop ((ht.mono le).mono (qa7 _ _ _)) (qa7 _ _ _ _ _ hd) (fun c e => by cases e) ha hb hG)).bind fun ρ2 q q' vg hq => ?_
  exact SS.pure ⟨hq, hm.mono vg⟩
 rcases hr with ⟨rfl, rfl⟩ | ⟨l, l', rfl, rfl, hl⟩
 ·refine (SS.newObj (fun a b => .deferred)).bind fun ρ1 q q' le hq => ?_
  exact tail ρ1 q q' _ _ le hq (.cons hq .nil)
 ·unfold Instr.getLoop
  simp only [bind_assoc]
  refine (SS.getObj hl).bind fun ρ1 o o' le ⟨ho, hsh, _⟩ => ?_
  cases ho with
  | @loop s pend fn tmps qal params assign body d d' a b c e f g =>
   exact tail ρ1 d d' [] [] le b .nil
  |_ => exact SS.halt
theorem SS.results {f : Func} (H : X.Ok Fb) {ts ts' : Array Value} (ht : jw X.F ρ ts.toList ts'.toList) : SS X ρ (results f ts) (results f ts') (fun ρ1 v v' => VR X.F ρ1 v v') := by
 unfold Go.results
 have key : ∀ (l : List ResultVar) {ρ1 : Rel}, ρ.le ρ1 → SS X ρ1 (l.mapM fun
   | .tmp t => Pure.pure (ts.getD t undef)
   | .cell a t => do Go.loadVar t (← Go.asAddr (ts.getD a undef))) (l.mapM fun
   | .tmp t => Pure.pure (ts'.getD t undef)
   | .cell a t => do Go.loadVar t (← Go.asAddr (ts'.getD a undef))) (fun ρ1 v v' => jw X.F ρ1 v v') := by
  intro l
  induction l with
  |nil => intro ρ1 _; exact SS.pure .nil
  |cons x l ih =>
   intro ρ1 le
   rw [List.mapM_cons, List.mapM_cons]
   refine SS.bind (Q := fun ρ2 v v' => VR X.F ρ2 v v') ?_ fun ρ2 v v' vg hv => ?_
   ·cases x with
    |tmp t => exact SS.pure ((ht.mono le).qjm t)
    |cell a t => exact (SS.asAddr ((ht.mono le).qjm a)).bind fun _ a a' _ ha => SS.loadVar H t ha
   ·exact (ih (Rel.le_trans le vg)).bind fun ρ3 l l' le3 hl => SS.pure (.cons (hv.mono le3) hl)
 rw [← Array.toArray_toList (xs := f.results)]
 simp only [List.mapM_toArray]
 refine SS.bind (Q := fun ρ1 (v v' : Array Value) => jw X.F ρ1 v.toList v'.toList) ((key f.results.toList ρ.le_refl).bind fun _ l l' _ hl => SS.pure (by simpa using hl)) fun ρ1 v v' _ hv => SS.pure ?_
 have hs := hv.size
 by_cases h1 : v.size = 1
 ·have h1' : v'.size = 1 := by omega
  rw [dif_pos h1, dif_pos h1']
  obtain ⟨x', e1, e2⟩ := hv.qvw (i := 0) (v := v[0]) (by simp)
  have : x' = v'[0] := by simpa [h1'] using e1.symm
  rw [← this]; exact e2
 ·have h1' : ¬ v'.size = 1 := by omega
  rw [dif_neg h1, dif_neg h1']
  exact .tuple hv
theorem qu9 {F : FuncId → Prop} {ts ts' : Array Value} (h : jw F ρ ts.toList ts'.toList) (ops : Array Oper) : yielded ops ts = yielded ops ts' := by
 funext j
 unfold yielded
 cases (ops[j]?).bind (·.dst) with
 |none => rfl
 |some d =>
  simp only [Option.bind_some]
  rcases h.toA (i := d) with ⟨a1, a2⟩ | ⟨v, v', a1, a2, hv⟩
  ·rw [a1, a2]
  ·rw [a1, a2]
   cases hv <;> rfl
theorem FR.eval (S : X.Set Fb wr sp) {f f' : Frame} (k : FR X Fb wr ρ f f') : EvR X.F Fb ρ f.eval f'.eval := by
 refine ⟨fun x hx => ?_, fun v => rfl⟩
 cases x with
 |tmp t => exact k.tmps.qjm t
 |const v => exact qdz S.ok.fb v hx
 |global g => exact Bool.noConfusion hx
 |func f => exact .func (S.ok.fb _ hx) .nil
theorem qb8 {id : Nat} : ∀ {l l' : List Item}, IsR X Fb wr ρ l l' → (exitTo id l = none ∧ exitTo id l' = none) ∨ ∃ k k', exitTo id l = some k ∧ exitTo id l' = some k' ∧ IsR X Fb wr ρ k k'
 |_, _, .nil => .inl ⟨rfl, rfl⟩
 |_, _, .cons a b => by
  cases a with
  |inBlock i =>
   unfold exitTo
   split
   ·exact .inr ⟨_, _, rfl, rfl, b⟩
   ·exact qb8 b
  |code c => unfold exitTo; exact qb8 b
  |inLoop c => unfold exitTo; exact qb8 b
  |inRegion td c => unfold exitTo; exact qb8 b
  |inRangeFunc r => unfold exitTo; exact qb8 b
  |endRangeFunc r => unfold exitTo; exact qb8 b
  |beginRound => unfold exitTo; exact qb8 b
theorem qkh {base base' up up' : List Frame} {fr fr' : Frame} {w w' : World} {ρ0 : Rel} {w0 w0' : World} (hf : FR X Fb wr ρ fr fr') (hu : FsR X Fb wr ρ up up') (hw : WR X ρ w w') (hn : NB w) (hB : Bot (fr :: up)) (hne : up ≠ [])
  (he : Eff X ρ0 ρ w0' w' w0) (hsz : w0.heap.size ≤ w.heap.size) {v v' : Value} (hv : VR X.F ρ v v') (m m' : Bool) {es es' : Array Event} (hev : ∀ e ∈ es', qhn X ρ e) {s1 : GStep}
  (hstep : GStep.after es (doReturn X.P m fr (up ++ base) none v w) = s1) :
  Out X Fb wr sp base base' ρ0 w0 w0' (GStep.after es' (doReturn X.P' m' fr' (up' ++ base') none v' w')) s1 := by
 cases hu with
 |nil => exact absurd rfl hne
 |cons a b =>
  rename_i c c' up up'
  unfold doReturn at hstep ⊢
  simp only [List.cons_append] at hstep ⊢
  rw [hf.kind] at hstep
  rw [hf.kind']
  simp only [GStep.after] at hstep ⊢
  cases hstep
  exact .nice rfl (a.finish hv) b hw he hsz (fun e h => hev e (by simpa using h)) hn (hB.tail.swap (qcn _ _))
end
section
variable {X : Cx} {Fb : FuncId → Bool} {wr : Bool} {sp : FuncId → Bool} {ρ : Rel}
theorem qdp {base base' up up' : List Frame} {fr fr' : Frame} {w w' : World} (hf : FR X Fb wr ρ fr fr') (hu : FsR X Fb wr ρ up up') (hw : WR X ρ w w') (hn : NB w) (hB : Bot (fr :: up)) {td td' : List Item} (ht : IsR X Fb wr ρ td td')
  {s1 : GStep} (hstep : GStep.go { frame := { fr with todo := td }, callers := up ++ base, status := .running, dying := none } w = s1) :
  Out X Fb wr sp base base' ρ w w' (.go { frame := { fr' with todo := td' }, callers := up' ++ base', status := .running, dying := none } w') s1 := by
 cases hstep
 exact .nice rfl (hf.with ht) hu hw (Eff.refl ..) (jy _) (by simp) hn (hB.swap (by rfl))
theorem qci {α β : Type} {s : Sem α} {s' : Sem β} {Q : Rel → α → β → Prop} (hs : SS X ρ s s' Q) {w w' : World} (hw : WR X ρ w w') {a : α} {wx : World} {es : Array Event} (hr : s.runT X.P w #[] = (.ok a wx, es)) :
  ∃ ρ1 a' w1' es1, s'.runT X.P' w' #[] = (.ok a' w1', es1) ∧ WR X ρ1 wx w1' ∧ Eff X ρ ρ1 w' w1' w ∧ w.heap.size ≤ wx.heap.size ∧ (∀ e ∈ es1, qhn X ρ1 e) ∧ Q ρ1 a a' ∧ KC w wx := by
 have : s.run X.P w = .ok a wx := by rw [← Sem.runT_fst X.P s w #[], hr]
 obtain ⟨ρ1, a', w1', es1, h1, h⟩ := hs.1 w w' a wx #[] hw this
 exact ⟨ρ1, a', w1', es1, by rw [h1]; simp, h⟩
theorem qy1 {α β : Type} {s : Sem α} {s' : Sem β} {Q : Rel → α → β → Prop} (hs : SS X ρ s s' Q) {w w' : World} (hw : WR X ρ w w') {h : Halt} {wx : World} {es : Array Event} (hr : s.runT X.P w #[] = (.halt h wx, es)) : qnu h ∧ KC w wx := by
 have : s.run X.P w = .halt h wx := by rw [← Sem.runT_fst X.P s w #[], hr]
 exact hs.2 w w' h wx hw this
def qbz (P : Program) (m : Bool) (fr : Frame) (cs : List Frame) (jump : Option Code) (w : World) : GStep :=
 match fr.roundOf with
 |none => if jump matches none | some .ret then .go { frame := { fr with mode := .returning }, callers := cs, status := .running, dying := none } w else .ended (.stuck "exit, goto: no such block or label" (fr.pos P)) w
 |some l =>
  let (r, es) := (Instr.endRound l jump).runT P w #[]
  GStep.after (seen P fr.fn es) <| match r with
  | .ok v w => doReturn P m fr cs none v w
  | .halt _ w => .ended (.stuck "range over a function: no such loop" (fr.pos P)) w
theorem qh0 {base base' up up' : List Frame} {fr fr' : Frame} {w w' : World} (hf : FR X Fb wr ρ fr fr') (hu : FsR X Fb wr ρ up up') (hw : WR X ρ w w') (hn : NB w) (hB : Bot (fr :: up)) (jump : Option Code) (hj : ∀ c, jump = some c → X.C c) (m m' : Bool)
  {s1 : GStep} (hstep : qbz X.P m fr (up ++ base) jump w = s1) :
  Out X Fb wr sp base base' ρ w w' (qbz X.P' m' fr' (up' ++ base') jump w') s1 := by
 have hr0 := hf.round
 unfold qbz at hstep ⊢
 rcases hr0 with ⟨e1, e2⟩ | ⟨l, l', e1, e2, hl⟩
 ·rw [e1] at hstep
  rw [e2]
  dsimp only at hstep ⊢
  have yes : ∀ {gs : GStep}, gs = GStep.go { frame := { fr' with mode := .returning }, callers := up' ++ base', status := .running, dying := none } w' → GStep.go { frame := { fr with mode := .returning }, callers := up ++ base, status := .running, dying := none } w = s1 → Out X Fb wr sp base base' ρ w w' gs s1 := by
   intro gs h1 h2
   subst h1
   cases h2
   exact .nice rfl ⟨hf.fn, hf.same, hf.tmps, hf.todo, hf.defers, rfl, .inr rfl, hf.kind, hf.kind', hf.round⟩ hu hw (Eff.refl ..) (jy _) (by simp) hn (hB.swap (by rfl))
  rw [e2] at yes
  rw [e1] at yes
  cases jump with
  |none => exact yes rfl hstep
  |some c => cases c <;> first | exact yes rfl hstep | (change GStep.ended _ _ = _ at hstep; cases hstep; exact .ended)
 ·have hne : up ≠ [] := by
   rintro rfl
   have := hB fr (by simp)
   rw [e1] at this; cases this
  rw [e1] at hstep
  rw [e2]
  dsimp only at hstep ⊢
  cases hr : (Instr.endRound l jump).runT X.P w #[] with
  |mk r es0 =>
   rw [hr] at hstep
   cases r with
   |halt h wx => cases hstep; exact .ended
   |ok v wx =>
    obtain ⟨ρ1, v', w1', es1, h1, h2, h3, h4, h5, h6, h7⟩ := qci (SS.endRound hl jump hj) hw hr
    rw [h1]
    exact qkh (hf.mono h3.le) (hu.mono h3.le) h2 trivial hB hne h3 h4 h6 m m' (fun e he => h5 e (qd5 he)) hstep
theorem qec {ops : Array Oper} {i : Nat} {o : Oper} (h : ops.toList.all (qa0 X.P X.P' Fb wr) = true) (hi : ops[i]? = some o) : qa0 X.P X.P' Fb wr o = true := by
 rw [List.all_eq_true] at h
 exact h o (Array.mem_toList_iff.2 (Array.mem_of_getElem? hi))
theorem vv (P : Program) (m : Bool) (fr : Frame) (cs : List Frame) (w : World) (hm : fr.mode = .run) : stepG P m (G fr cs) w = stepG.exec P m true fr cs none w := by
 simp only [stepG, G, hm]
theorem zm (P : Program) (m : Bool) (fr : Frame) (cs : List Frame) (w : World) (hm : fr.mode = .returning) : stepG P m (G fr cs) w = unwind P m fr cs none w := by
 simp only [stepG, G, hm]
theorem qqm (S : X.Set Fb wr sp) (d : Departure) : X.P'.follows d = X.P.follows d := by
 show X.P'.toTables.follows d = X.P.toTables.follows d
 rw [S.ok.tables]
theorem DsR.append {a a' b b' : List Deferred} (ha : DsR ρ a a') (hb : DsR ρ b b') : DsR ρ (a ++ b) (a' ++ b') := by
 induction a generalizing a' with
 |nil => cases ha; exact hb
 |cons x a ih => cases ha with | cons p q => exact .cons p (ih q)
theorem Out.qyg {base base' : List Frame} {w w' : World} {r' : GStep} {es0 : Array Event} {s : GStep} (h : Out X Fb wr sp base base' ρ w w' r' s) : Out X Fb wr sp base base' ρ w w' r' (GStep.after es0 s) := by
 cases h with
 |nice e h1 h2 h3 h4 h5 h6 h7 h8 => exact .nice e h1 h2 h3 h4 h5 h6 h7 h8
 |special k1 k2 e h0 h1 h2 h3 h4 h5 h6 h7 h8 => exact .special k1 k2 e h0 h1 h2 h3 h4 h5 h6 h7 h8
 |panic h1 h2 => exact .panic h1 h2
 |ended => exact .ended
theorem SS.iterate (H : X.Ok Fb) {f : Operand} {ev ev' : Operand → Value} (hc : ∀ v, ev (.const v) = v) (hc' : ∀ v, ev' (.const v) = v) (he : VR X.F ρ (ev f) (ev' f)) {l l' : Nat} (hl : ρ l l') :
  SS X ρ (do let d ← resolve ev { callee := .value f, args := #[.const (.func (.yield l) #[] #[])], argTypes := #[] } 0; invoke d.target d.args)
   (do let d ← resolve ev' { callee := .value f, args := #[.const (.func (.yield l') #[] #[])], argTypes := #[] } 0; invoke d.target d.args) (fun ρ1 n n' => NR X ρ1 n n') := by
 unfold resolve
 dsimp only
 have hargs : jw X.F ρ (#[Operand.const (.func (.yield l) #[] #[])].map ev).toList (#[Operand.const (.func (.yield l') #[] #[])].map ev').toList := by
  simp only [List.map_toArray, List.map_cons, List.map_nil, hc, hc']
  exact .cons (.yield hl) .nil
 generalize ev f = vf at he
 generalize ev' f = vf' at he
 cases he with
 |func hF hcs =>
  simp only [Deferred.ofValue]
  refine SS.bind (Q := fun ρ1 d d' => ∃ g cs cs' ars zw, d = ⟨.fn (.func g) cs, ars⟩ ∧ d' = ⟨.fn (.func g) cs', zw⟩ ∧ X.F g ∧ jw X.F ρ1 cs.toList cs'.toList ∧ jw X.F ρ1 ars.toList zw.toList) (SS.pure ⟨_, _, _, _, _, rfl, rfl, hF, hcs, by simpa using hargs⟩) fun ρ1 d d' le hd => ?_
  obtain ⟨g, cs, cs', ars, zw, rfl, rfl, h1, h2, h3⟩ := hd
  exact SS.callFunc H g h1 (h3.qeb h2)
 |yield r =>
  simp only [Deferred.ofValue]
  refine SS.bind (Q := fun ρ1 d d' => ∃ l l' cs cs' ars zw, d = ⟨.fn (.yield l) cs, ars⟩ ∧ d' = ⟨.fn (.yield l') cs', zw⟩ ∧ ρ1 l l' ∧ jw X.F ρ1 ars.toList zw.toList) (SS.pure ⟨_, _, _, _, _, _, rfl, rfl, r, by simpa using hargs⟩) fun ρ1 d d' le hd => ?_
  obtain ⟨l, l', cs, cs', ars, zw, rfl, rfl, h1, h3⟩ := hd
  exact SS.qml h1 h3
 |nilFunc =>
  exact SS.dies (q9.runtimePanic (α := Next) .nilDeref)
 |_ => exact SS.dies (q9.ku (q9.stuck _))
theorem qwt (S : X.Set Fb wr sp) {base base' up up' : List Frame} {fr fr' : Frame} {w w' : World} (hf : FR X Fb wr ρ fr fr') (hu : FsR X Fb wr ρ up up') (hw : WR X ρ w w') (hn : NB w) (hB : Bot (fr :: up)) (hm : fr.mode = .run) (m m' : Bool)
  {s1 : GStep} (hstep : stepG.exec X.P m true fr (up ++ base) none w = s1) :
  Out X Fb wr sp base base' ρ w w' (stepG.exec X.P' m' true fr' (up' ++ base') none w') s1 := by
 obtain ⟨fn, tmps, todo, defers, mode, kind, ro⟩ := fr
 obtain ⟨fn', qal, todo', defers', qcj, kind', ro'⟩ := fr'
 have ht : IsR X Fb wr ρ todo todo' := hf.todo
 obtain rfl : fn' = fn := hf.fn
 have hco : ∀ c, codeOk X.P X.P' Fb wr c = true → X.C c := fun c h => (S.c c).2 h
 unfold stepG.exec at hstep ⊢
 cases ht with
 |nil => exact qh0 hf hu hw hn hB none (fun c e => by cases e) m m' hstep
 | @cons i i' l l' a b =>
  cases a with
  |inBlock id => exact qdp hf hu hw hn hB b hstep
  |inLoop c => exact qdp hf hu hw hn hB (.cons (.code c) (.cons (.inLoop c) b)) hstep
  |inRangeFunc r => cases hstep; exact .ended
  |beginRound =>
   simp only at hstep ⊢
   refine qht S hf hu hw hn hm hB ?_ hstep
   have hr0 : qfx ρ ro ro' := hf.round
   rcases hr0 with ⟨rfl, rfl⟩ | ⟨l, l', rfl, rfl, hl⟩
   ·exact SS.dies (q9.ku (q9.stuck _))
   ·exact (SS.beginRound hl).bind fun _ _ _ _ _ => SS.pure .skip
  | @endRangeFunc l l' r =>
   simp only at hstep ⊢
   cases hr : (Instr.endLoop l).runT X.P w #[] with
   |mk r0 es0 =>
    rw [hr] at hstep
    cases r0 with
    |halt h wx =>
     obtain ⟨qcw, hnb⟩ := qy1 (SS.endLoop r) hw hr
     cases h with
     |panic v =>
      have hm' : mode = .run := hm
      subst hm'
      cases hstep
      exact .panic (hf.marked hw hnb) (FsR.marked hw hnb hu)
     |_ => cases hstep; exact .ended
    |ok j wx =>
     obtain ⟨ρ1, j', w1', es1, h1, h2, h3, h4, h5, ⟨h6, hC⟩, h7⟩ := qci (SS.endLoop r) hw hr
     rw [h1]
     subst h6
     simp only [GStep.after] at hstep ⊢
     cases hstep
     refine .nice rfl ((hf.mono h3.le).with ?_) (hu.mono h3.le) h2 h3 h4 (fun e he => h5 e (qd5 (by simpa using he))) trivial (hB.swap (by rfl))
     cases j with
     |none => exact b.mono h3.le
     |some c => exact .cons (.code ((S.c c).1 (hC c rfl))) (b.mono h3.le)
  | @inRegion ops td c =>
   cases td with
   |nil => exact qdp hf hu hw hn hB b hstep
   |cons i td =>
    dsimp only at hstep ⊢
    rw [← qu9 (ts := tmps) (ts' := qal) hf.tmps]
    by_cases hwant : ((ops[i]?).map (Region.wanted · (yielded ops tmps))).getD false = true
    ·rw [if_pos hwant] at hstep ⊢
     cases ho : ops[i]? with
     |none => rw [ho] at hwant; cases hwant
     |some o =>
      unfold stepG.oper at hstep ⊢
      have op1 : (⟨fn', tmps, .inRegion ops (i :: td) :: l, defers, mode, kind, ro⟩ : Frame).oper? = some o := ho
      have op2 : (⟨fn', qal, .inRegion ops (i :: td) :: l', defers', qcj, kind', ro'⟩ : Frame).oper? = some o := ho
      rw [op1] at hstep
      rw [op2]
      have hok := qec c ho
      have nd : ∀ c, o.op ≠ .defer c := fun c e => by
       unfold qa0 at hok
       rw [e] at hok
       simp at hok
      dsimp only at hstep ⊢
      split at hstep
      ·rename_i e; exact absurd e (nd _)
      ·split
       ·rename_i e; exact absurd e (nd _)
       ·exact qht S hf hu hw hn hm hB (SS.execOp S.ok wr S.wrs o hok _ _ (hf.eval S)) hstep
    ·rw [if_neg hwant] at hstep ⊢
     cases hstep
     exact .nice rfl (hf.finish qeq) hu hw (Eff.refl ..) (jy _) (by simp) hn (hB.swap (qcn _ _))
  | @code c hc =>
   cases c with
   |skip => exact qdp hf hu hw hn hB b hstep
   |ret =>
    exact qh0 hf hu hw hn hB (some .ret) (fun c e => by cases e; exact hco _ rfl) m m' hstep
   |seq x y =>
    simp only [codeOk, Bool.and_eq_true] at hc
    exact qdp hf hu hw hn hB (.cons (.code hc.1) (.cons (.code hc.2) b)) hstep
   |cond x y z =>
    simp only [codeOk, Bool.and_eq_true] at hc
    have he := (hf.eval S).1 x hc.1
    dsimp only at hstep ⊢
    generalize Frame.eval _ x = v at he hstep
    generalize Frame.eval _ x = v' at he ⊢
    cases he with
    |bool t =>
     refine qdp hf hu hw hn hB (.cons (.code ?_) b) hstep
     cases t
     ·exact hc.2.2
     ·exact hc.2.1
    |_ => cases hstep; exact .ended
   |block id c => exact qdp hf hu hw hn hB (.cons (.code (c := c) hc) (.cons (.inBlock id) b)) hstep
   |loop c => exact qdp hf hu hw hn hB (.cons (.code (c := c) hc) (.cons (.inLoop (c := c) hc) b)) hstep
   |exit id =>
    dsimp only at hstep ⊢
    rcases qb8 (id := id) b with ⟨e1, e2⟩ | ⟨k, k', e1, e2, hk⟩
    ·rw [e1] at hstep
     rw [e2]
     exact qh0 hf hu hw hn hB (some (.exit id)) (fun c e => by cases e; exact hco _ rfl) m m' hstep
    ·rw [e1] at hstep
     rw [e2]
     exact qdp hf hu hw hn hB hk hstep
   |region id ops draw =>
    simp only at hstep ⊢
    cases draw with
    |false => exact qdp hf hu hw hn hB (.cons (.inRegion _ hc) b) hstep
    |true =>
     simp only [Bool.not_true, Bool.false_eq_true, if_false] at hstep ⊢
     rw [qqm S]
     cases hr : (choose (.order fn' id)).run X.P w with
     |halt h wx => rw [hr] at hstep; cases hstep; exact .ended
     |ok t wx =>
      rw [hr] at hstep
      obtain ⟨ρ1, t', w1', es1, h1, h2, h3, h4, h5, h6, h7⟩ := (SS.choose (X := X) (ρ := ρ) (.order fn' id)).1 w w' t wx #[] hw hr
      subst h6
      have hr2 : (choose (.order fn' id)).run X.P' w' = .ok t w1' := by rw [← Sem.runT_fst X.P' _ w' #[], h1]
      rw [hr2]
      simp only at hstep ⊢
      cases hstep
      exact .nice rfl ((hf.mono h3.le).with (.cons (.inRegion _ hc) (b.mono h3.le))) (hu.mono h3.le) h2 h3 h4 (by simp) trivial (hB.swap (by rfl))
   |rangeFunc f params assign body =>
    simp only [codeOk, Bool.and_eq_true] at hc
    obtain ⟨hc1, hc2, hc3⟩ := hc
    simp only at hstep ⊢
    have hG : X.G fn' := hf.same
    cases hr : (Instr.enterLoop fn' tmps params assign body ro).runT X.P w #[] with
    |mk r0 es0 =>
     rw [hr] at hstep
     cases r0 with
     |halt h wx => cases hstep; exact .ended
     |ok p wx =>
      obtain ⟨l1, mark⟩ := p
      obtain ⟨ρ1, p', w1', es1, h1, h2, h3, h4, h5, ⟨h6, h6'⟩, h7⟩ := qci (SS.enterLoop hG hf.tmps params (hco _ hc2) (hco _ hc3) hf.round) hw hr
      obtain ⟨l1', mark'⟩ := p'
      rw [h1]
      dsimp only at hstep h6 h6' ⊢
      have hf1 := hf.mono h3.le
      have hf2 : FR X Fb wr ρ1 ⟨fn', tmps, .inRangeFunc l1 :: l, mark ++ defers, mode, kind, ro⟩ ⟨fn', qal, .inRangeFunc l1' :: l', mark' ++ defers', qcj, kind', ro'⟩ :=
       ⟨hf1.fn, hf1.same, hf1.tmps, .cons (.inRangeFunc h6) (b.mono h3.le), h6'.append hf1.defers, hf1.mode, hf1.run, hf1.kind, hf1.kind', hf1.round⟩
      subst hstep
      exact Out.qyg (Out.after (qht S hf2 (hu.mono h3.le) h2 trivial hm (hB.swap (by rfl)) (SS.iterate S.ok (fun _ => rfl) (fun _ => rfl) ((hf2.eval S).1 f hc1) h6) rfl) h3 h4 (fun e he => h5 e (qd5 he)))
   |_ => simp [codeOk] at hc
end
section
variable {X : Cx} {Fb : FuncId → Bool} {wr : Bool} {sp : FuncId → Bool} {ρ : Rel}
theorem qrr (S : X.Set Fb wr sp) {base base' up up' : List Frame} {fr fr' : Frame} {w w' : World} (hf : FR X Fb wr ρ fr fr') (hu : FsR X Fb wr ρ up up') (hw : WR X ρ w w') (hn : NB w) (hB : Bot (fr :: up)) (hm : fr.mode = .returning) (hgo : fr.defers ≠ [] ∨ up ≠ []) (m m' : Bool)
  {s1 : GStep} (hstep : unwind X.P m fr (up ++ base) none w = s1) :
  Out X Fb wr sp base base' ρ w w' (unwind X.P' m' fr' (up' ++ base') none w') s1 := by
 obtain ⟨fn, tmps, todo, defers, mode, kind, ro⟩ := fr
 obtain ⟨fn', qal, todo', defers', qcj, kind', ro'⟩ := fr'
 obtain rfl : fn' = fn := hf.fn
 obtain rfl : mode = .returning := hm
 obtain rfl : qcj = .returning := hf.mode
 have hd : DsR ρ defers defers' := hf.defers
 cases hd with
 | @cons r r' l l' a b =>
  unfold unwind at hstep ⊢
  dsimp only at hstep ⊢
  cases hr : (Instr.takeDeferred r).runT X.P w #[] with
  |mk r0 es0 =>
   rw [hr] at hstep
   cases r0 with
   |halt h wx => cases hstep; exact .ended
   |ok v wx =>
    obtain ⟨ρ1, v', w1', es1, h1, h2, h3, h4, h5, ⟨h6, h6'⟩, h7⟩ := qci (SS.takeDeferred a) hw hr
    rw [h1]
    subst h6; subst h6'
    cases hstep
    have hf1 := hf.mono h3.le
    exact .nice rfl ⟨hf1.fn, hf1.same, hf1.tmps, hf1.todo, b.mono h3.le, rfl, .inr rfl, hf1.kind, hf1.kind', hf1.round⟩ (hu.mono h3.le) h2 h3 h4 (fun e he => h5 e (qd5 (by simpa using he))) trivial (hB.swap (by rfl))
 |nil =>
  have hne : up ≠ [] := hgo.resolve_left (fun h => h rfl)
  obtain ⟨f, q1, q2⟩ := hf.same
  have q1 : X.P.funcs[fn']? = some f := q1
  have q2 : X.P'.funcs[fn']? = some f := q2
  unfold unwind at hstep ⊢
  dsimp only at hstep ⊢
  rw [q1] at hstep
  rw [q2]
  dsimp only at hstep ⊢
  cases hr : (results f tmps).runT X.P w #[] with
  |mk r0 es0 =>
   rw [hr] at hstep
   cases r0 with
   |halt h wx => cases h <;> (cases hstep; exact .ended)
   |ok v wx =>
    obtain ⟨ρ1, v', w1', es1, h1, h2, h3, h4, h5, h6, h7⟩ := qci (SS.results S.ok hf.tmps) hw hr
    rw [h1]
    exact qkh (hf.mono h3.le) (hu.mono h3.le) h2 trivial hB hne h3 h4 h6 m m' (fun e he => h5 e (qd5 he)) hstep
theorem qhg (S : X.Set Fb wr sp) {base base' up up' : List Frame} {fr fr' : Frame} {w w' : World} (hf : FR X Fb wr ρ fr fr') (hu : FsR X Fb wr ρ up up') (hw : WR X ρ w w') (hn : NB w) (hB : Bot (fr :: up)) (hgo : fr.mode = .run ∨ fr.defers ≠ [] ∨ up ≠ []) (m m' : Bool) :
  Out X Fb wr sp base base' ρ w w' (stepG X.P' m' (G fr' (up' ++ base')) w') (stepG X.P m (G fr (up ++ base)) w) := by
 rcases hf.run with hm | hm
 ·rw [vv _ _ _ _ _ hm, vv _ _ _ _ _ (hf.mode.trans hm)]
  exact qwt S hf hu hw hn hB hm m m' rfl
 ·rw [zm _ _ _ _ _ hm, zm _ _ _ _ _ (hf.mode.trans hm)]
  exact qrr S hf hu hw hn hB hm (hgo.resolve_left (by rw [hm]; intro h; cases h)) m m' rfl
inductive qaw (P : Program) (Q : Frame → List Frame → World → Prop) : Frame → List Frame → World → Prop
 |done {fr : Frame} {cs : List Frame} {w : World} : Q fr cs w → qaw P Q fr cs w
 |step {fr : Frame} {cs : List Frame} {w : World} (nf : Tape → Frame) (nc : Tape → List Frame) (nw : Tape → World) (ne : Tape → Array Event) :
   (∀ τ : Tape, (∀ i q, i < w.drawn → τ i q = w.tape i q) → stepG P true (G fr cs) { w with tape := τ } = .go (G (nf τ) (nc τ)) (nw τ) (ne τ)) →
   (∀ τ : Tape, (∀ i q, i < w.drawn → τ i q = w.tape i q) → qaw P Q (nf τ) (nc τ) (nw τ)) → qaw P Q fr cs w
def c0 : Frame := { (default : Frame) with defers := [{ target := .nil, args := #[] }], mode := .panicking [] }
theorem qii (P : Program) (m : Bool) (fr : Frame) (cs : List Frame) (w : World) {ch : List PanicEntry} (hm : fr.mode = .panicking ch) : stepG P m (G fr cs) w = unwind P m fr cs none w := by
 simp only [stepG, G, hm]
theorem raise_mode (f : Frame) (ch : List PanicEntry) : ∃ ch', (f.raise ch).mode = .panicking ch' := by
 unfold Frame.raise
 split <;> exact ⟨_, rfl⟩
theorem qco (f : Frame) (ch : List PanicEntry) : (f.raise ch).defers = f.defers := by
 unfold Frame.raise
 split <;> rfl
theorem qij {P : Program} {w : World} {r : Nat} (hn : Clean w r) {v : List Deferred} {w1 : World} {es : Array Event} (h : (Instr.takeDeferred r).runT P w #[] = (.ok v w1, es)) : v = [] ∧ KC w w1 := by
 have h2 : (Instr.takeDeferred r).run P w = .ok v w1 := by rw [← Sem.runT_fst P _ w #[], h]
 unfold Instr.takeDeferred at h2
 simp only [bind, Sem.bind, Go.getObj, Sem.run] at h2
 cases ho : w.heap[r]? with
 |none => rw [ho] at h2; cases h2
 |some o =>
  rw [ho] at h2
  cases o with
  |deferred l =>
   cases l with
   |none => cases h2
   |some l =>
    cases l with
    |cons d ds => exact absurd ho (hn d ds)
    |nil =>
     simp only [Sem.bind, Go.setObj, Sem.run, ho, pure] at h2
     cases h2
     refine ⟨rfl, fun r' hc d ds => ?_⟩
     show (w.heap.setIfInBounds r (.deferred none))[r']? ≠ _
     rw [Array.getElem?_setIfInBounds]
     split
     ·split <;> (intro e; cases e)
     ·exact hc d ds
  |_ => cases h2
theorem kg {P : Program} {Q : Frame → List Frame → World → Prop} (hQ : ∀ fr cs w, Q fr cs w → ∀ ch, fr.mode ≠ .panicking ch) : ∀ {fr : Frame} {cs : List Frame} {w : World}, qaw P Q fr cs w →
  NB w → (∃ ch, fr.mode = .panicking ch) → ((∃ up, cs = up ++ [c0] ∧ Marked w fr ∧ ∀ f ∈ up, Marked w f) ∨ (∃ d ds, fr.defers = d :: ds ∧ d.target = .nil)) → False := by
 intro fr cs w h
 induction h with
 |done hq => intro _ ⟨ch, e⟩ _; exact hQ _ _ _ hq ch e
 | @step fr cs w nf nc nw ne hstep q33 ih =>
  intro hn ⟨ch, hm⟩ hshape
  have hs := hstep w.tape (fun _ _ _ => rfl)
  have ih := ih w.tape (fun _ _ _ => rfl)
  have hw : ({ w with tape := w.tape } : World) = w := rfl
  rw [hw, qii _ _ _ _ _ hm] at hs
  generalize nf w.tape = jv, nc w.tape = cs1, nw w.tape = w1, ne w.tape = es at hs ih
  unfold unwind at hs
  rcases hshape with ⟨up, rfl, hk, hup⟩ | ⟨d, ds, hd, ht⟩
  ·cases hd : fr.defers with
   |cons d ds =>
    obtain ⟨r, hr, hcl⟩ := hk d (by rw [hd]; simp)
    obtain ⟨t, ars⟩ := d
    obtain rfl : t = .collected r := hr
    rw [hd] at hs
    dsimp only at hs
    cases hrun : (Instr.takeDeferred r).runT P w #[] with
    |mk r0 es0 =>
     rw [hrun] at hs
     cases r0 with
     |halt h wx => cases hs
     |ok v wx =>
      obtain ⟨rfl, hn'⟩ := qij hcl hrun
      cases hs
      exact ih trivial ⟨ch, hm⟩ (.inl ⟨up, rfl, fun d' hd' => let ⟨r', x, y⟩ := hk d' (by rw [hd]; exact List.mem_cons_of_mem _ (by simpa using hd')); ⟨r', x, hn' r' y⟩, fun f hf => (hup f hf).keep hn'⟩)
   |nil =>
    rw [hd, hm] at hs
    dsimp only at hs
    split at hs
    ·cases hs
    ·cases up with
     |nil =>
      cases hs
      exact ih hn (raise_mode _ _) (.inr ⟨_, [], qco _ _, rfl⟩)
     |cons f up =>
      cases hs
      refine ih hn (raise_mode _ _) (.inl ⟨up, rfl, ?_, fun g hg => hup g (by simp [hg])⟩)
      intro d' hd'
      rw [qco] at hd'
      exact hup f (by simp) d' hd'
  ·obtain ⟨t, ars⟩ := d
   obtain rfl : t = .nil := ht
   rw [hd] at hs
   unfold callDeferred at hs
   rw [hm] at hs
   cases hs
end
def re (w : World) (τ : Tape) : World := { w with tape := τ }
def rw0 {α : Type} : Result α → World | .ok _ w => w | .halt _ w => w
def rre {α : Type} (τ : Tape) : Result α → Result α | .ok a w => .ok a (re w τ) | .halt h w => .halt h (re w τ)
theorem q2o (P : Program) (w : World) (τ : Tape) (a : Addr) (u : TypeId) (k : Addr) (b : Bool) : (re w τ).seen P a u k b = w.seen P a u k b := rfl
theorem qqj (P : Program) (w : World) (τ : Tape) (a : Addr) (b : Bool) : (re w τ).farLoad P a b = w.farLoad P a b := rfl
theorem qv2 {A : Type} {w : World} {τ : Tape} (fo : Except String A) (g g' : A → Except String (World × List Addr)) (h : ∀ c, ∃ h l, g c = .ok ({ w with heap := h }, l) ∧ g' c = .ok (re { w with heap := h } τ, l)) :
  (∃ e, (fo >>= g) = .error e ∧ (fo >>= g') = .error e) ∨ ∃ h l, (fo >>= g) = .ok ({ w with heap := h }, l) ∧ (fo >>= g') = .ok (re { w with heap := h } τ, l) := by
 cases fo with
 |error e => exact .inl ⟨e, rfl, rfl⟩
 |ok c => exact .inr (h c)
theorem qnh (P : Program) (w : World) (τ : Tape) (a : Addr) (u : TypeId) (k : Addr) (v : Value) (b : Bool) :
  (∃ e, w.viewStore P a u k v b = .error e ∧ (re w τ).viewStore P a u k v b = .error e) ∨
  ∃ h l, w.viewStore P a u k v b = .ok ({ w with heap := h }, l) ∧ (re w τ).viewStore P a u k v b = .ok (re { w with heap := h } τ, l) := by
 unfold World.viewStore
 rw [q2o]
 generalize w.seen P a u k b = r
 generalize tight P P.depth u = t
 cases t with
 |false => exact .inl ⟨_, rfl, rfl⟩
 |true =>
  cases r with
  |error e => exact .inl ⟨_, rfl, rfl⟩
  |ok r =>
   obtain ⟨c, e, frozen, first, like, cells⟩ := r
   generalize v.bytes? = vb
   cases vb with
   |none => exact .inl ⟨_, rfl, rfl⟩
   |some bs =>
    dsimp only
    by_cases hb : some bs.length ≠ like.bytes?.map (·.length)
    ·left
     refine ⟨_, if_pos hb, ?_⟩
     exact if_pos hb
    ·rcases qv2 (cells.foldlM (init := c) _) (fun c => pure ({ w with heap := w.heap.setIfInBounds a.block (.cells c e frozen) }, cells.map fun (i, _, _) => { block := a.block, off := i }))
      (fun c => pure ({ re w τ with heap := w.heap.setIfInBounds a.block (.cells c e frozen) }, cells.map fun (i, _, _) => { block := a.block, off := i })) (w := w) (τ := τ) (fun c => ⟨_, _, rfl, rfl⟩) with ⟨e1, h1, h2⟩ | ⟨h, l, h1, h2⟩
     ·exact .inl ⟨e1, (if_neg hb).trans h1, (if_neg hb).trans h2⟩
     ·exact .inr ⟨h, l, (if_neg hb).trans h1, (if_neg hb).trans h2⟩
theorem qe9 (P : Program) (w : World) (τ : Tape) (a : Addr) (v : Value) (b : Bool) :
  (∃ e, w.farStore P a v b = .error e ∧ (re w τ).farStore P a v b = .error e) ∨
  ∃ h l, w.farStore P a v b = .ok ({ w with heap := h }, l) ∧ (re w τ).farStore P a v b = .ok (re { w with heap := h } τ, l) := by
 unfold World.farStore
 have hh : (re w τ).heap[a.block]? = w.heap[a.block]? := rfl
 have hno : (re w τ).noCell a "store: no such cell" = w.noCell a "store: no such cell" := rfl
 rw [hh, hno]
 cases ho : w.heap[a.block]? with
 |none => exact .inl ⟨_, rfl, rfl⟩
 |some o =>
  cases o with
  |view at_ u =>
   dsimp only
   rcases qnh P w τ at_ u a v b with ⟨e, e1, e2⟩ | ⟨h, l, e1, e2⟩
   ·exact .inl ⟨.unsupported (.unsafePointer e), by rw [e1], by rw [e2]⟩
   ·exact .inr ⟨h, l, by rw [e1], by rw [e2]⟩
  |_ => exact .inl ⟨_, rfl, rfl⟩
def storeT {α : Type} (P : Program) (m : Mode) (a : Addr) (v : Value) (k : Sem α) (w : World) (es : Array Event) : Result α × Array Event :=
 match w.cell? a with
 |some _ =>
  if w.frozen? a then (.halt (.unsupported (.unsafePointer "a write to bytes that a string shares")) w, es)
  else k.runT P (w.setCell a v) (es.push ⟨.cell a, true, m == .atomic⟩)
 |none => match w.farStore P a v (m == .atomic) with
  | .ok (w, touched) => k.runT P w (es ++ touched.toArray.map (⟨.cell ·, true, m == .atomic⟩))
  | .error h => (.halt h w, es)
theorem keep {α : Type} (P : Program) (s : Sem α) : ∀ (w : World) (es : Array Event) (e : Event), e ∈ es → e ∈ (s.runT P w es).2 := by
 induction s with
 |pure a => intro w es e h; exact h
 |halt x => intro w es e h; exact h
 |load m a k ih =>
  intro w es e h
  unfold Sem.runT
  cases w.cell? a with
  |some v => exact ih v w _ e (Array.mem_push_of_mem _ h)
  |none =>
   dsimp only
   cases w.farLoad P a (m == .atomic) with
   |error x => exact h
   |ok r => exact ih r.1 w _ e (Array.mem_append_left _ h)
 |store m a v k ih =>
  intro w es e h
  have main : e ∈ (storeT P m a v k w es).2 := by
   unfold storeT
   cases w.cell? a with
   |some v0 =>
    dsimp only
    split
    ·exact h
    ·exact ih _ _ e (Array.mem_push_of_mem _ h)
   |none =>
    dsimp only
    cases w.farStore P a v (m == .atomic) with
    |error x => exact h
    |ok r => exact ih r.1 _ e (Array.mem_append_left _ h)
  cases v <;> first | exact main | exact h
 |new o k ih => intro w es e h; exact ih _ _ _ e h
 |shape r k ih => intro w es e h; exact ih _ _ _ e h
 |freeze a n k ih => intro w es e h; exact ih _ _ e h
 |frozen a k ih => intro w es e h; exact ih _ _ _ e h
 |getObj r k ih =>
  intro w es e h
  unfold Sem.runT
  cases w.heap[r]? with
  |none => exact h
  |some o => cases o <;> first | exact ih _ _ _ e (Array.mem_push_of_mem _ h) | exact h
 |setObj r o k ih =>
  intro w es e h
  unfold Sem.runT
  cases w.heap[r]? with
  |none => exact h
  |some o => cases o <;> first | exact ih _ _ e (Array.mem_push_of_mem _ h) | exact h
 |choose q k ih =>
  intro w es e h
  unfold Sem.runT
  split
  ·exact ih _ _ _ e h
  ·exact ih _ _ _ e h
 |sys c k ih => intro w es e h; exact ih _ _ _ e (Array.mem_push_of_mem _ h)
 |program k ih => intro w es e h; exact ih _ _ _ e h
 |mark m k ih => intro w es e h; exact ih _ _ e (Array.mem_push_of_mem _ h)
theorem qpm {α : Type} (P : Program) (m : Mode) (a : Addr) (v : Value) (k : Sem α) (ih : ∀ (w : World) (es : Array Event), (∀ e ∈ (k.runT P w es).2, e.loc ≠ .output) →
  w.drawn ≤ (rw0 (k.runT P w es).1).drawn ∧ (rw0 (k.runT P w es).1).tape = w.tape ∧
  ∀ τ, (∀ i q, i < (rw0 (k.runT P w es).1).drawn → τ i q = w.tape i q) → k.runT P (re w τ) es = (rre τ (k.runT P w es).1, (k.runT P w es).2)) (w : World) (es : Array Event) (hno : ∀ e ∈ (storeT P m a v k w es).2, e.loc ≠ .output) :
  w.drawn ≤ (rw0 (storeT P m a v k w es).1).drawn ∧ (rw0 (storeT P m a v k w es).1).tape = w.tape ∧
  ∀ τ, (∀ i q, i < (rw0 (storeT P m a v k w es).1).drawn → τ i q = w.tape i q) → storeT P m a v k (re w τ) es = (rre τ (storeT P m a v k w es).1, (storeT P m a v k w es).2) := by
 unfold storeT at hno ⊢
 have hc : ∀ τ, (re w τ).cell? a = w.cell? a := fun _ => rfl
 have hf : ∀ τ, (re w τ).frozen? a = w.frozen? a := fun _ => rfl
 simp only [hc, hf]
 cases hq : w.cell? a with
 |some v0 =>
  rw [hq] at hno
  dsimp only at hno ⊢
  cases hq2 : w.frozen? a with
  |true => exact ⟨jy _, rfl, fun τ _ => rfl⟩
  |false => rw [hq2] at hno; exact ih (w.setCell a v) _ hno
 |none =>
  rw [hq] at hno
  dsimp only at hno ⊢
  rcases qe9 P w w.tape a v (m == .atomic) with ⟨e, e1, _⟩ | ⟨h, l, e1, _⟩
  ·have e2 : ∀ τ, (re w τ).farStore P a v (m == .atomic) = .error e := fun τ => by
    rcases qe9 P w τ a v (m == .atomic) with ⟨e', e3, e4⟩ | ⟨h, l, e3, e4⟩
    ·rw [e1] at e3; cases e3; exact e4
    ·rw [e1] at e3; cases e3
   simp only [e1, e2]
   exact ⟨jy _, rfl, fun τ _ => rfl⟩
  ·have e2 : ∀ τ, (re w τ).farStore P a v (m == .atomic) = .ok (re { w with heap := h } τ, l) := fun τ => by
    rcases qe9 P w τ a v (m == .atomic) with ⟨e', e3, e4⟩ | ⟨h', l', e3, e4⟩
    ·rw [e1] at e3; cases e3
    ·rw [e1] at e3; cases e3; exact e4
   rw [e1] at hno
   simp only [e1, e2]
   exact ih { w with heap := h } _ hno
theorem qup {α : Type} (P : Program) : ∀ (s : Sem α) (w : World) (es : Array Event), (∀ e ∈ (s.runT P w es).2, e.loc ≠ .output) →
  w.drawn ≤ (rw0 (s.runT P w es).1).drawn ∧ (rw0 (s.runT P w es).1).tape = w.tape ∧
  ∀ τ, (∀ i q, i < (rw0 (s.runT P w es).1).drawn → τ i q = w.tape i q) → s.runT P (re w τ) es = (rre τ (s.runT P w es).1, (s.runT P w es).2) := by
 intro s
 induction s with
 |pure a => intro w es _; exact ⟨jy _, rfl, fun τ _ => rfl⟩
 |halt h => intro w es _; exact ⟨jy _, rfl, fun τ _ => rfl⟩
 |load m a k ih =>
  intro w es hno
  unfold Sem.runT at hno ⊢
  have hc' : ∀ τ, (re w τ).cell? a = w.cell? a := fun _ => rfl
  simp only [hc', qqj]
  cases hc : w.cell? a with
  |some v => rw [hc] at hno; exact ih v w _ hno
  |none =>
   rw [hc] at hno
   dsimp only at hno ⊢
   cases hf : w.farLoad P a (m == .atomic) with
   |error h => exact ⟨jy _, rfl, fun τ _ => rfl⟩
   |ok r => rw [hf] at hno; exact ih r.1 w _ hno
 |store m a v k ih => cases v <;> first | (intro w es hno; exact ⟨jy _, rfl, fun τ _ => rfl⟩) | exact qpm P m a _ k ih
 |new o k ih => intro w es hno; exact ih _ { w with heap := w.heap.push o } es hno
 |shape r k ih => intro w es hno; exact ih _ w es hno
 |freeze a n k ih =>
  intro w es hno
  have h := ih (w.freeze a n) es hno
  have e : ∀ τ, (re w τ).freeze a n = re (w.freeze a n) τ := fun τ => by unfold World.freeze; split <;> rfl
  have e1 : (w.freeze a n).drawn = w.drawn := by unfold World.freeze; split <;> rfl
  have e2 : (w.freeze a n).tape = w.tape := by unfold World.freeze; split <;> rfl
  rw [e1, e2] at h
  unfold Sem.runT
  simp only [e]
  exact h
 |frozen a k ih => intro w es hno; exact ih _ w es hno
 |getObj r k ih =>
  intro w es hno
  unfold Sem.runT at hno ⊢
  have hc : ∀ τ, (re w τ).heap[r]? = w.heap[r]? := fun _ => rfl
  simp only [hc]
  cases ho : w.heap[r]? with
  |none => exact ⟨jy _, rfl, fun τ _ => rfl⟩
  |some o => rw [ho] at hno; cases o <;> first | exact ⟨jy _, rfl, fun τ _ => rfl⟩ | exact ih _ w _ hno
 |setObj r o k ih =>
  intro w es hno
  unfold Sem.runT at hno ⊢
  have hc : ∀ τ, (re w τ).heap[r]? = w.heap[r]? := fun _ => rfl
  simp only [hc]
  cases ho : w.heap[r]? with
  |none => exact ⟨jy _, rfl, fun τ _ => rfl⟩
  |some o' => rw [ho] at hno; cases o' <;> first | exact ⟨jy _, rfl, fun τ _ => rfl⟩ | exact ih { w with heap := w.heap.setIfInBounds r o } _ hno
 |choose q k ih =>
  intro w es hno
  unfold Sem.runT at hno ⊢
  by_cases hf : q.forced = true
  ·simp only [hf, if_true] at hno ⊢
   exact ih 0 w es hno
  ·simp only [hf, Bool.false_eq_true, if_false] at hno ⊢
   have h := ih (q.cut (w.tape w.drawn q)) { w with drawn := w.drawn + 1 } es hno
   refine ⟨Nat.le_of_lt h.1, h.2.1, fun τ hτ => ?_⟩
   have e := h.2.2 τ (fun i q hi => hτ i q hi)
   have e0 : (re w τ).tape (re w τ).drawn q = w.tape w.drawn q := hτ _ _ h.1
   rw [e0]
   exact e
 |sys c k ih =>
  intro w es hno
  unfold Sem.runT at hno
  exact absurd rfl (hno ⟨.output, true, false⟩ (keep P _ _ _ _ (by simp)))
 |program k ih => intro w es hno; exact ih P w es hno
 |mark m k ih => intro w es hno; exact ih w _ hno
end
end Go.Proofs.YtkpekiajdlolnabGreat.Sim
