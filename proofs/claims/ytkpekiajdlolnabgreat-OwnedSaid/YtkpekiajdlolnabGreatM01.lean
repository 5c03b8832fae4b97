/-
  PROVED IN PARTS: text 1 of 10 of the carrying ground of the claim (see each part's own remark). Conditions: those that each theorem names.
-/
import Derived.Conc.Beside
set_option linter.unusedVariables false
set_option linter.unusedSimpArgs false

/-
  A SIMULATION BETWEEN TWO RUNS OF ONE GOROUTINE: one alone (program P), one in company (program P', a heap into which others put blocks too). The blocks of the two heaps correspond by a relation that grows with each new block. This text: the relation on values, objects, worlds.
-/
namespace Go.Proofs.YtkpekiajdlolnabGreat.Sim
open Go

abbrev Rel := Nat → Nat → Prop
def Rel.le (ρ ρ' : Rel) : Prop := ∀ a b, ρ a b → ρ' a b
theorem Rel.le_refl (ρ : Rel) : ρ.le ρ := fun _ _ h => h
theorem Rel.le_trans {a b c : Rel} (h : a.le b) (k : b.le c) : a.le c := fun _ _ x => k _ _ (h _ _ x)

mutual
inductive VR (F : FuncId → Prop) (ρ : Rel) : Value → Value → Prop
  | bool (b : Bool) : VR F ρ (.bool b) (.bool b)
  | int (k : IntKind) (n : Int) : VR F ρ (.int k n) (.int k n)
  | string (s : ByteArray) : VR F ρ (.string s) (.string s)
  | ptrNil : VR F ρ (.pointer none) (.pointer none)
  | ptr {b b' o : Nat} {s : Option Nat} : ρ b b' → VR F ρ (.pointer (some ⟨b, o, s⟩)) (.pointer (some ⟨b', o, s⟩))
  | sliceNil (n c : Nat) : VR F ρ (.slice none n c) (.slice none n c)
  | slice {b b' o : Nat} {s : Option Nat} {n c : Nat} : ρ b b' → VR F ρ (.slice (some ⟨b, o, s⟩) n c) (.slice (some ⟨b', o, s⟩) n c)
  | mapNil : VR F ρ (.map none) (.map none)
  | map {b b' : Nat} : ρ b b' → VR F ρ (.map (some b)) (.map (some b'))
  | func {f : FuncId} {cs cs' : Array Value} : F f → VsR F ρ cs.toList cs'.toList → VR F ρ (.func (.func f) #[] cs) (.func (.func f) #[] cs')
  | yield {b b' : Nat} : ρ b b' → VR F ρ (.func (.yield b) #[] #[]) (.func (.yield b') #[] #[])
  | nilFunc : VR F ρ .nilFunc .nilFunc
  | agg {cs cs' : Array Value} : VsR F ρ cs.toList cs'.toList → VR F ρ (.agg cs) (.agg cs')
  | tuple {cs cs' : Array Value} : VsR F ρ cs.toList cs'.toList → VR F ρ (.tuple cs) (.tuple cs')
inductive VsR (F : FuncId → Prop) (ρ : Rel) : List Value → List Value → Prop
  | nil : VsR F ρ [] []
  | cons {v v' : Value} {l l' : List Value} : VR F ρ v v' → VsR F ρ l l' → VsR F ρ (v :: l) (v' :: l')
end

section
variable {F : FuncId → Prop} {ρ ρ' : Rel}

mutual
theorem VR.mono (h : ρ.le ρ') : ∀ {v v' : Value}, VR F ρ v v' → VR F ρ' v v'
  | _, _, .bool b => .bool b
  | _, _, .int k n => .int k n
  | _, _, .string s => .string s
  | _, _, .ptrNil => .ptrNil
  | _, _, .ptr r => .ptr (h _ _ r)
  | _, _, .sliceNil n c => .sliceNil n c
  | _, _, .slice r => .slice (h _ _ r)
  | _, _, .mapNil => .mapNil
  | _, _, .map r => .map (h _ _ r)
  | _, _, .func f r => .func f (r.mono h)
  | _, _, .yield r => .yield (h _ _ r)
  | _, _, .nilFunc => .nilFunc
  | _, _, .agg r => .agg (r.mono h)
  | _, _, .tuple r => .tuple (r.mono h)
theorem VsR.mono (h : ρ.le ρ') : ∀ {l l' : List Value}, VsR F ρ l l' → VsR F ρ' l l'
  | _, _, .nil => .nil
  | _, _, .cons a b => .cons (a.mono h) (b.mono h)
end

theorem VsR.length {l l' : List Value} (h : VsR F ρ l l') : l.length = l'.length := by
  induction l generalizing l' with
  | nil => cases h; rfl
  | cons v l ih => cases h with | cons _ h2 => simp [ih h2]
theorem VsR.get? : ∀ {l l' : List Value}, VsR F ρ l l' → ∀ (i : Nat) {v : Value}, l[i]? = some v → ∃ v', l'[i]? = some v' ∧ VR F ρ v v'
  | _, _, .nil, i, v, h => by simp at h
  | _, _, .cons a b, 0, v, h => by simp at h; subst h; exact ⟨_, rfl, a⟩
  | _, _, .cons a b, i + 1, v, h => by simpa using b.get? i (by simpa using h)
theorem VsR.getNone : ∀ {l l' : List Value}, VsR F ρ l l' → ∀ (i : Nat), l[i]? = none → l'[i]? = none := by
  intro l l' h i hi
  rw [List.getElem?_eq_none_iff] at hi ⊢
  rw [← h.length]; exact hi
theorem VsR.append : ∀ {l l' m m' : List Value}, VsR F ρ l l' → VsR F ρ m m' → VsR F ρ (l ++ m) (l' ++ m')
  | _, _, _, _, .nil, h => h
  | _, _, _, _, .cons a b, h => .cons a (b.append h)
theorem VsR.set : ∀ {l l' : List Value}, VsR F ρ l l' → ∀ (i : Nat) {v v' : Value}, VR F ρ v v' → VsR F ρ (l.set i v) (l'.set i v')
  | _, _, .nil, _, _, _, _ => .nil
  | _, _, .cons _ b, 0, _, _, h => .cons h b
  | _, _, .cons a b, i + 1, _, _, h => .cons a (b.set i h)
theorem VsR.drop : ∀ {l l' : List Value}, VsR F ρ l l' → ∀ (i : Nat), VsR F ρ (l.drop i) (l'.drop i)
  | _, _, h, 0 => h
  | _, _, .nil, _ + 1 => .nil
  | _, _, .cons _ b, i + 1 => b.drop i
theorem VsR.take : ∀ {l l' : List Value}, VsR F ρ l l' → ∀ (i : Nat), VsR F ρ (l.take i) (l'.take i)
  | _, _, _, 0 => .nil
  | _, _, .nil, _ + 1 => .nil
  | _, _, .cons a b, i + 1 => .cons a (b.take i)
theorem VsR.replicate {v v' : Value} (h : VR F ρ v v') : ∀ n, VsR F ρ (List.replicate n v) (List.replicate n v')
  | 0 => .nil
  | n + 1 => .cons h (VsR.replicate h n)
theorem VsR.map {α : Type} (f g : α → Value) (l : List α) (h : ∀ x ∈ l, VR F ρ (f x) (g x)) : VsR F ρ (l.map f) (l.map g) := by
  induction l with
  | nil => exact .nil
  | cons x l ih => exact .cons (h x (by simp)) (ih fun y hy => h y (by simp [hy]))
/-- what a value takes in cells. -/
theorem VR.cells {v v' : Value} (h : VR F ρ v v') : VsR F ρ v.cells.toList v'.cells.toList := by
  cases h with
  | agg h => exact h
  | _ => simp only [Value.cells]; exact .cons (by first | exact .bool _ | exact .int _ _ | exact .string _ | exact .ptrNil | exact .ptr ‹_› | exact .sliceNil _ _ | exact .slice ‹_› | exact .mapNil | exact .map ‹_› | exact .func ‹_› ‹_› | exact .yield ‹_› | exact .nilFunc | exact .tuple ‹_›) .nil
theorem VsR.size {c c' : Array Value} (h : VsR F ρ c.toList c'.toList) : c.size = c'.size := by simpa using h.length
theorem VsR.aget {c c' : Array Value} (h : VsR F ρ c.toList c'.toList) {i : Nat} {v : Value} (hi : c[i]? = some v) : ∃ v', c'[i]? = some v' ∧ VR F ρ v v' := by
  obtain ⟨v', h1, h2⟩ := h.get? i (v := v) (by simpa using hi)
  exact ⟨v', by simpa using h1, h2⟩
theorem undefR : VR F ρ undef undef := .tuple .nil
theorem VsR.agetD {c c' : Array Value} (h : VsR F ρ c.toList c'.toList) (i : Nat) : VR F ρ (c.getD i undef) (c'.getD i undef) := by
  have e : ∀ a : Array Value, a.getD i undef = a[i]?.getD undef := fun a => by simp
  rw [e, e]
  cases hc : c[i]? with
  | none =>
    have : c'[i]? = none := by
      have := h.getNone i (by simpa using hc)
      simpa using this
    rw [this]; exact undefR
  | some v => obtain ⟨v', h1, h2⟩ := h.aget hc; rw [h1]; exact h2
theorem VsR.aset {c c' : Array Value} (h : VsR F ρ c.toList c'.toList) (i : Nat) {v v' : Value} (hv : VR F ρ v v') : VsR F ρ (c.setIfInBounds i v).toList (c'.setIfInBounds i v').toList := by
  rw [Array.toList_setIfInBounds, Array.toList_setIfInBounds]; exact h.set i hv
theorem VsR.apush {c c' : Array Value} (h : VsR F ρ c.toList c'.toList) {v v' : Value} (hv : VR F ρ v v') : VsR F ρ (c.push v).toList (c'.push v').toList := by
  rw [Array.toList_push, Array.toList_push]; exact h.append (.cons hv .nil)
theorem VsR.aappend {c c' d d' : Array Value} (h : VsR F ρ c.toList c'.toList) (k : VsR F ρ d.toList d'.toList) : VsR F ρ (c ++ d).toList (c' ++ d').toList := by
  rw [Array.toList_append, Array.toList_append]; exact h.append k
theorem VsR.aextract {c c' : Array Value} (h : VsR F ρ c.toList c'.toList) (i j : Nat) : VsR F ρ (c.extract i j).toList (c'.extract i j).toList := by
  rw [Array.toList_extract, Array.toList_extract, List.extract_eq_take_drop, List.extract_eq_take_drop]; exact (h.drop i).take _
theorem VsR.amap {α : Type} (f g : α → Value) (l : Array α) (h : ∀ x, VR F ρ (f x) (g x)) : VsR F ρ (l.map f).toList (l.map g).toList := by
  rw [Array.toList_map, Array.toList_map]; exact VsR.map f g _ fun x _ => h x
end

/-! ### what holds no address -/
mutual
def flat (F : FuncId → Bool) : Value → Bool
  | .bool _ | .int .. | .string _ | .pointer none | .slice none _ _ | .map none | .nilFunc => true
  | .func (.func f) first cs => F f && first.isEmpty && cs.isEmpty
  | .agg ⟨l⟩ | .tuple ⟨l⟩ => flats F l
  | _ => false
def flats (F : FuncId → Bool) : List Value → Bool
  | [] => true
  | v :: l => flat F v && flats F l
end
mutual
theorem flat_refl {Fb : FuncId → Bool} {F : FuncId → Prop} (hF : ∀ f, Fb f = true → F f) {ρ : Rel} : ∀ (v : Value), flat Fb v = true → VR F ρ v v
  | .bool b, _ => .bool b
  | .int k n, _ => .int k n
  | .string s, _ => .string s
  | .pointer none, _ => .ptrNil
  | .slice none n c, _ => .sliceNil n c
  | .map none, _ => .mapNil
  | .nilFunc, _ => .nilFunc
  | .func (.func f) first cs, h => by
    simp only [flat, Bool.and_eq_true, Array.isEmpty_iff] at h
    obtain ⟨⟨h1, rfl⟩, rfl⟩ := h
    exact .func (hF f h1) .nil
  | .agg ⟨l⟩, h => .agg (flats_refl hF l (by simpa [flat] using h))
  | .tuple ⟨l⟩, h => .tuple (flats_refl hF l (by simpa [flat] using h))
  | .float .., h | .complex .., h | .pointer (some _), h | .slice (some _) _ _, h | .map (some _), h | .chan _, h | .iface .., h | .nilIface, h => by simp [flat] at h
  | .func (.method _) _ _, h | .func (.methodOf ..) _ _, h | .func (.via ..) _ _, h | .func (.yield _) _ _, h => by simp [flat] at h
theorem flats_refl {Fb : FuncId → Bool} {F : FuncId → Prop} (hF : ∀ f, Fb f = true → F f) {ρ : Rel} : ∀ (l : List Value), flats Fb l = true → VsR F ρ l l
  | [], _ => .nil
  | v :: l, h => by
    simp only [flats, Bool.and_eq_true] at h
    exact .cons (flat_refl hF v h.1) (flats_refl hF l h.2)
end

/-! ### objects -/
structure ER (F : FuncId → Prop) (ρ : Rel) (e e' : MapEntry) : Prop where
  key : VR F ρ e.key e'.key
  val : VR F ρ e.val e'.val
  born : e.born = e'.born
inductive EsR (F : FuncId → Prop) (ρ : Rel) : List MapEntry → List MapEntry → Prop
  | nil : EsR F ρ [] []
  | cons {e e' : MapEntry} {l l' : List MapEntry} : ER F ρ e e' → EsR F ρ l l' → EsR F ρ (e :: l) (e' :: l')
theorem ER.mono {F : FuncId → Prop} {ρ ρ' : Rel} (h : ρ.le ρ') {e e' : MapEntry} (k : ER F ρ e e') : ER F ρ' e e' := ⟨k.key.mono h, k.val.mono h, k.born⟩
theorem EsR.mono {F : FuncId → Prop} {ρ ρ' : Rel} (h : ρ.le ρ') : ∀ {l l' : List MapEntry}, EsR F ρ l l' → EsR F ρ' l l'
  | _, _, .nil => .nil
  | _, _, .cons a b => .cons (a.mono h) (b.mono h)

/-- The two programs, which functions may be called, which code may stand in a frame; which blocks (of the lone heap) are only read. -/
structure Cx where
  P : Program
  P' : Program
  F : FuncId → Prop
  C : Code → Prop
  Sh : Nat → Prop

/-- A function that is one in both programs. -/
def Cx.G (X : Cx) (f : FuncId) : Prop := ∃ fn, X.P.funcs[f]? = some fn ∧ X.P'.funcs[f]? = some fn
inductive OR (X : Cx) (ρ : Rel) : Obj → Obj → Prop
  | cells {c c' : Array Value} {e : TypeId} {z z' : Nat × Nat} : VsR X.F ρ c.toList c'.toList → (z' = z ∨ z' = (0, 0)) → OR X ρ (.cells c e z) (.cells c' e z')
  | map {es es' : Array MapEntry} {clock : Nat} : EsR X.F ρ es.toList es'.toList → OR X ρ (.map es clock) (.map es' clock)
  | stringIter (s : ByteArray) (p : Nat) : OR X ρ (.stringIter s p) (.stringIter s p)
  | mapIterNil (since : Nat) (seen : Array Nat) (st : Nat) : OR X ρ (.mapIter none since seen st) (.mapIter none since seen st)
  | mapIter {m m' since : Nat} {seen : Array Nat} {st : Nat} : ρ m m' → OR X ρ (.mapIter (some m) since seen st) (.mapIter (some m') since seen st)
  | loop {s : LoopState} {pend : Option Code} {fn : FuncId} {tmps tmps' : Array Value} {params : Array Tmp} {assign body : Code} {d d' : Nat} :
      VsR X.F ρ tmps.toList tmps'.toList → ρ d d' → (∀ c, pend = some c → X.C c) → X.C assign → X.C body → X.G fn →
      OR X ρ (.loop { state := s, pending := pend, fn, tmps, params, assign, body, defers := d }) (.loop { state := s, pending := pend, fn, tmps := tmps', params, assign, body, defers := d' })
  | number {b b' o : Nat} {s : Option Nat} (lost : Bool) : ρ b b' → OR X ρ (.number ⟨b, o, s⟩ lost) (.number ⟨b', o, s⟩ lost)
  | deferredNone : OR X ρ (.deferred none) (.deferred none)
  | deferred : OR X ρ (.deferred (some [])) (.deferred (some []))
theorem OR.mono {X : Cx} {ρ ρ' : Rel} (h : ρ.le ρ') {o o' : Obj} (k : OR X ρ o o') : OR X ρ' o o' := by
  cases k with
  | cells a b => exact .cells (a.mono h) b
  | map a => exact .map (a.mono h)
  | stringIter s p => exact .stringIter s p
  | mapIterNil a b c => exact .mapIterNil a b c
  | mapIter r => exact .mapIter (h _ _ r)
  | loop a b c d e g => exact .loop (a.mono h) (h _ _ b) c d e g
  | number l r => exact .number l (h _ _ r)
  | deferredNone => exact .deferredNone
  | deferred => exact .deferred

/-! ### worlds -/
structure WR (X : Cx) (ρ : Rel) (w w' : World) : Prop where
  fn : ∀ {a b b'}, ρ a b → ρ a b' → b = b'
  inj : ∀ {a a' b}, ρ a b → ρ a' b → a = a'
  heap : ∀ {a b}, ρ a b → ∃ o o', w.heap[a]? = some o ∧ w'.heap[b]? = some o' ∧ OR X ρ o o'
  tape : ∀ i q, w.tape (w.drawn + i) q = w'.tape (w'.drawn + i) q
  sh : ∀ a, X.Sh a → (∃ c e n, w.heap[a]? = some (.cells c e (0, n)) ∧ c.size ≤ n) ∨ (∃ es k, w.heap[a]? = some (.map es k))

/-- What a step of the one in company may do to its world. -/
structure Eff (X : Cx) (ρ ρ' : Rel) (w w' v : World) : Prop where     -- w, w': the company's world before, behind; v: the lone world before
  le : ρ.le ρ'
  size : w.heap.size ≤ w'.heap.size
  keep : ∀ b, b < w.heap.size → (∀ a, ρ a b → X.Sh a) → w'.heap[b]? = w.heap[b]?
  new : ∀ a b, ρ' a b → ρ a b ∨ (v.heap.size ≤ a ∧ w.heap.size ≤ b)
  drawn : ∃ d, w'.drawn = w.drawn + d
  tape : w'.tape = w.tape
  os : w'.os = w.os
  output : w'.output = w.output
  cov : ∀ b, w.heap.size ≤ b → b < w'.heap.size → ∃ a, ρ' a b

/-- What it may list. -/
def EvOK (X : Cx) (ρ : Rel) (e : Event) : Prop :=
  match e.loc with
  | .cell a => e.sync = false ∧ ∃ b, ρ b a.block ∧ (e.write = true → ¬ X.Sh b)
  | .obj r => e.sync = false ∧ ∃ b, ρ b r ∧ (e.write = true → ¬ X.Sh b)
  | .mark .noRoom => True
  | _ => False
theorem EvOK.mono {X : Cx} {ρ ρ' : Rel} (h : ρ.le ρ') {e : Event} (k : EvOK X ρ e) : EvOK X ρ' e := by
  unfold EvOK at *
  split at k
  · exact ⟨k.1, let ⟨b, h1, h2⟩ := k.2; ⟨b, h _ _ h1, h2⟩⟩
  · exact ⟨k.1, let ⟨b, h1, h2⟩ := k.2; ⟨b, h _ _ h1, h2⟩⟩
  · trivial
  · exact k.elim

theorem Eff.refl (X : Cx) (ρ : Rel) (w v : World) : Eff X ρ ρ w w v := ⟨ρ.le_refl, Nat.le_refl _, fun _ _ _ => rfl, fun _ _ h => .inl h, ⟨0, rfl⟩, rfl, rfl, rfl, fun _ h1 h2 => absurd h1 (Nat.not_le.2 h2)⟩

end Go.Proofs.YtkpekiajdlolnabGreat.Sim

/-
  THE SIMULATION, second text: reckonings ('Sem'): what is done alone is done in company, on blocks that correspond; the primitives.
-/
namespace Go.Proofs.YtkpekiajdlolnabGreat.Sim
open Go

theorem Eff.trans {X : Cx} {ρ ρ1 ρ2 : Rel} {w w1 w2 v v1 : World} (h : Eff X ρ ρ1 w w1 v) (k : Eff X ρ1 ρ2 w1 w2 v1) (hv : v.heap.size ≤ v1.heap.size) : Eff X ρ ρ2 w w2 v := by
  refine ⟨Rel.le_trans h.le k.le, Nat.le_trans h.size k.size, fun b hb hs => ?_, fun a b hab => ?_, ?_, k.tape.trans h.tape, k.os.trans h.os, k.output.trans h.output, fun b h1 h2 => (Nat.lt_or_ge b w1.heap.size).elim (fun x => let ⟨a, y⟩ := h.cov b h1 x; ⟨a, k.le _ _ y⟩) fun x => k.cov b x h2⟩
  · rw [k.keep b (Nat.lt_of_lt_of_le hb h.size) (fun a ha => ?_), h.keep b hb hs]
    rcases h.new a b ha with h1 | ⟨_, h2⟩
    · exact hs a h1
    · omega
  · rcases k.new a b hab with h1 | ⟨h1, h2⟩
    · exact h.new a b h1
    · exact .inr ⟨Nat.le_trans hv h1, Nat.le_trans h.size h2⟩
  · obtain ⟨d1, e1⟩ := h.drawn
    obtain ⟨d2, e2⟩ := k.drawn
    exact ⟨d1 + d2, by rw [e2, e1]; omega⟩

/-- The ends that a reckoning may come to here but for a value: a panic, or an end of the whole run. -/
def Mild : Halt → Prop
  | .panic _ | .stuck _ => True
  | .unsupported (.initOrder _) => False
  | .unsupported _ => True
  | _ => False
/-- The block holds no deferred calls that wait. -/
def Clean (w : World) (r : Nat) : Prop := ∀ (d : Deferred) (ds : List Deferred), w.heap[r]? ≠ some (Obj.deferred (some (d :: ds)))
/-- what held none holds none. -/
def KC (w w1 : World) : Prop := ∀ r, Clean w r → Clean w1 r
theorem KC.refl (w : World) : KC w w := fun _ h => h
theorem KC.trans {a b c : World} (h : KC a b) (k : KC b c) : KC a c := fun r x => k r (h r x)
/-- (kept for its name's sake: nothing is asked of the world as a whole.) -/
def NB (_ : World) : Prop := True
/-- it asks nothing of the machine's world. -/
def NoOut {α : Type} (P : Program) (s : Sem α) (w : World) : Prop := ∀ es, ∀ e ∈ (s.runT P w es).2, e ∈ es ∨ e.loc ≠ .output
structure SS (X : Cx) {α β : Type} (ρ : Rel) (s : Sem α) (s' : Sem β) (Q : Rel → α → β → Prop) : Prop where
  ok : ∀ w w' a w1 es, WR X ρ w w' → s.run X.P w = .ok a w1 →
    ∃ ρ1 a' w1' es1, s'.runT X.P' w' es = (.ok a' w1', es ++ es1) ∧ WR X ρ1 w1 w1' ∧ Eff X ρ ρ1 w' w1' w ∧ w.heap.size ≤ w1.heap.size ∧ (∀ e ∈ es1, EvOK X ρ1 e) ∧ Q ρ1 a a' ∧ KC w w1
  mild : ∀ w w' h w1, WR X ρ w w' → s.run X.P w = .halt h w1 → Mild h ∧ KC w w1
  out : ∀ w w', WR X ρ w w' → NoOut X.P s w
theorem NoOut.bind {α β : Type} {P : Program} {s : Sem α} {f : α → Sem β} {w : World} (h : NoOut P s w) (k : ∀ a w1, s.run P w = .ok a w1 → NoOut P (f a) w1) : NoOut P (s >>= f) w := by
  intro es e he
  have he : e ∈ ((s.bind f).runT P w es).2 := he
  rw [Sem.runT_bind'] at he
  have h1 := h es
  have h0 := Sem.runT_fst P s w es
  rcases hr : s.runT P w es with ⟨r, es1⟩
  rw [hr] at he h1 h0
  cases r with
  | ok a w1 =>
    rcases k a w1 h0.symm es1 e he with h2 | h2
    · exact h1 e h2
    · exact .inr h2
  | halt x w1 => exact h1 e he
theorem NoOut.quiet {α : Type} {P : Program} {s : Sem α} {w : World} (h : ∀ es, (s.runT P w es).2 = es) : NoOut P s w := fun es e he => by rw [h es] at he; exact .inl he
theorem NoOut.one {α : Type} {P : Program} {s : Sem α} {w : World} (h : ∀ es, (s.runT P w es).2 = es ∨ ∃ e, e.loc ≠ .output ∧ (s.runT P w es).2 = es.push e) : NoOut P s w := fun es e he => by
  rcases h es with h | ⟨e', h1, h2⟩
  · rw [h] at he; exact .inl he
  · rw [h2] at he
    rcases Array.mem_push.1 he with h | rfl
    · exact .inl h
    · exact .inr h1

section
variable {X : Cx} {ρ : Rel} {α β γ δ : Type}

theorem SS.mono {s : Sem α} {s' : Sem β} {Q R : Rel → α → β → Prop} (h : SS X ρ s s' Q) (hq : ∀ ρ1 a a', ρ.le ρ1 → Q ρ1 a a' → R ρ1 a a') : SS X ρ s s' R := by
  refine ⟨fun w w' a w1 es hw hr => ?_, h.2, h.3⟩
  obtain ⟨ρ1, a', w1', es1, h1, h2, h3, h4, h5, h6, h7⟩ := h.1 w w' a w1 es hw hr
  exact ⟨ρ1, a', w1', es1, h1, h2, h3, h4, h5, hq _ _ _ h3.le h6, h7⟩
theorem SS.pure {a : α} {a' : β} {Q : Rel → α → β → Prop} (h : Q ρ a a') : SS X ρ (Pure.pure a : Sem α) (Pure.pure a' : Sem β) Q := by
  refine ⟨fun w w' b w1 es hw hr => ?_, fun w w' h w1 hw hr => (by cases hr), fun w w' _ => .quiet fun _ => rfl⟩
  have hr' : Result.ok a w = Result.ok b w1 := hr
  cases hr'
  exact ⟨ρ, a', w', #[], by simp [Pure.pure, Sem.runT], hw, Eff.refl .., Nat.le_refl _, by simp, h, KC.refl _⟩
/-- a reckoning that never comes to a value; one that, if it does not, ends mildly. -/
structure TameAt (P : Program) (s : Sem α) (w : World) : Prop where
  ok : ∀ a w1, s.run P w = .ok a w1 → KC w w1
  mild : ∀ h w1, s.run P w = .halt h w1 → Mild h ∧ KC w w1
  out : NoOut P s w
def Dies (s : Sem α) : Prop := ∀ P w, ∃ h w1, s.run P w = .halt h w1 ∧ (Mild h ∧ KC w w1) ∧ NoOut P s w
def Tame (s : Sem α) : Prop := ∀ P w, TameAt P s w
theorem Dies.tame {s : Sem α} (h : Dies s) : Tame s := fun P w => by
  obtain ⟨y, w2, h1, h2, h3⟩ := h P w
  exact ⟨fun _ _ e => (by rw [h1] at e; cases e), fun x w1 e => (by rw [h1] at e; cases e; exact h2), h3⟩
theorem SS.dies {s : Sem α} {s' : Sem β} {Q : Rel → α → β → Prop} (h : Dies s) : SS X ρ s s' Q :=
  ⟨fun w _ _ _ _ _ hr => (by
    obtain ⟨y, w2, h1, _⟩ := h X.P w
    rw [h1] at hr; cases hr), fun _ _ _ _ _ hr => (h.tame _ _).2 _ _ hr, fun _ _ _ => (h.tame _ _).3⟩
theorem Dies.halt (h : Halt) (m : Mild h) : Dies (Sem.halt h : Sem α) := fun _ w => ⟨h, w, rfl, ⟨m, KC.refl _⟩, .quiet fun _ => rfl⟩
theorem Dies.stuck (s : String) : Dies (stuck s : Sem α) := Dies.halt _ trivial
theorem Dies.unsupported (s : Unsupported) (m : Mild (.unsupported s) := by trivial) : Dies (unsupported s : Sem α) := Dies.halt _ m
theorem Dies.goPanic (v : Value) : Dies (goPanic v : Sem α) := Dies.halt _ trivial
theorem Tame.pure (a : α) : Tame (Pure.pure a : Sem α) := fun P w => ⟨fun _ _ e => (by cases e; exact KC.refl _), fun _ _ e => (by cases e), .quiet fun _ => rfl⟩
theorem Tame.bind {s : Sem α} {f : α → Sem β} (h : Tame s) (k : ∀ a, Tame (f a)) : Tame (s >>= f) := by
  intro P w
  refine ⟨fun a w1 e => ?_, fun x w1 e => ?_, (h P w).3.bind fun a w1 _ => (k a P w1).3⟩
  · rw [Sem.run_bind] at e
    cases hs : s.run P w with
    | ok b w2 => rw [hs] at e; exact ((h P w).1 _ _ hs).trans ((k b P w2).1 a w1 e)
    | halt y w2 => rw [hs] at e; cases e
  · rw [Sem.run_bind] at e
    cases hs : s.run P w with
    | ok b w2 =>
      rw [hs] at e
      have := (k b P w2).2 x w1 e
      exact ⟨this.1, ((h P w).1 _ _ hs).trans this.2⟩
    | halt y w2 => rw [hs] at e; cases e; exact (h P w).2 _ _ hs
theorem Dies.bind {s : Sem α} {f : α → Sem β} (t : Tame s) (h : ∀ a, Dies (f a)) : Dies (s >>= f) := by
  intro P w
  have ho : NoOut P (s >>= f) w := (t P w).3.bind fun a w1 _ => ((h a).tame P w1).3
  rw [Sem.run_bind]
  cases hs : s.run P w with
  | ok b w2 =>
    obtain ⟨x, w3, h1, h2, h3⟩ := h b P w2
    exact ⟨x, w3, h1, ⟨h2.1, ((t P w).1 _ _ hs).trans h2.2⟩, ho⟩
  | halt x w2 => exact ⟨x, w2, rfl, (t P w).2 _ _ hs, ho⟩
theorem Dies.bindL {s : Sem α} {f : α → Sem β} (h : Dies s) : Dies (s >>= f) := by
  intro P w
  obtain ⟨y, w2, h1, h2, h3⟩ := h P w
  have ho : NoOut P (s >>= f) w := h3.bind fun a w1 e => by rw [h1] at e; cases e
  rw [Sem.run_bind, h1]
  exact ⟨y, w2, rfl, h2, ho⟩
theorem Tame.program {f : Program → Sem α} (h : ∀ P, Tame (f P)) : Tame (Go.program >>= f) := fun P w => ⟨(h P P w).1, (h P P w).2, fun es => (h P P w).3 es⟩
theorem Dies.program {f : Program → Sem α} (h : ∀ P, Dies (f P)) : Dies (Go.program >>= f) := fun P w => let ⟨x, w1, a, b, c⟩ := h P P w; ⟨x, w1, a, b, fun es => c es⟩
theorem Tame.choose (q : Question) : Tame (Go.choose q) := fun P w => by
  have e' : ∀ r, (Go.choose q).run P w = r → (if q.forced then Result.ok 0 w else .ok (q.cut (w.tape w.drawn q)) { w with drawn := w.drawn + 1 }) = r := fun r e => e
  refine ⟨fun a w1 e => ?_, fun x w1 e => ?_, .quiet fun es => ?_⟩
  rotate_left 2
  · simp only [Go.choose, Sem.runT]
    split <;> rfl
  · have := e' _ e
    split at this <;> (cases this; exact KC.refl _)
  · have := e' _ e
    split at this <;> cases this
theorem Tame.shape (r : Nat) : Tame (Go.shape r) := fun P w => ⟨fun _ _ e => (by cases e; exact KC.refl _), fun _ _ e => (by cases e), .quiet fun _ => rfl⟩
theorem Tame.frozen (a : Addr) : Tame (Go.frozen a) := fun P w => ⟨fun _ _ e => (by cases e; exact KC.refl _), fun _ _ e => (by cases e), .quiet fun _ => rfl⟩
theorem NB.push {w : World} {o : Obj} (_ : ∀ d ds, o ≠ Obj.deferred (some (d :: ds))) (_ : NB w) : NB { w with heap := w.heap.push o } := trivial
theorem KC.push {w : World} {o : Obj} (ho : ∀ d ds, o ≠ Obj.deferred (some (d :: ds))) : KC w { w with heap := w.heap.push o } := by
  intro r h d ds e
  simp only [Array.getElem?_push] at e
  split at e
  · exact ho _ _ (Option.some.inj e)
  · exact h _ _ e
theorem Tame.newObj (o : Obj) (ho : ∀ d ds, o ≠ Obj.deferred (some (d :: ds))) : Tame (Go.newObj o) := fun P w => ⟨fun _ _ e => (by cases e; exact KC.push ho), fun _ _ e => (by cases e), .quiet fun _ => rfl⟩
theorem Tame.mark (m : Mark) : Tame (Go.mark m) := fun P w => ⟨fun _ _ e => (by cases e; exact KC.refl _), fun _ _ e => (by cases e), .one fun _ => .inr ⟨⟨.mark m, false, true⟩, by simp, rfl⟩⟩
theorem Tame.newVar (t : TypeId) (v : Value) : Tame (Go.newVar t v) := by
  unfold Go.newVar Go.newRow
  exact (Tame.newObj _ (fun _ _ e => by cases e)).bind fun _ => Tame.pure _
theorem Tame.underlying (t : TypeId) : Tame (Go.underlying t) := by
  unfold Go.underlying
  refine Tame.program fun P => ?_
  cases P.underlying t with
  | none => exact (Dies.stuck _).tame
  | some d => exact Tame.pure _
theorem Tame.elemOf (t : TypeId) : Tame (Go.elemOf t) := by
  unfold Go.elemOf
  refine (Tame.underlying t).bind fun d => ?_
  cases d <;> first | exact Tame.pure _ | exact (Dies.stuck _).tame
theorem Dies.runtimePanic (e : RuntimeError) : Dies (runtimePanic e : Sem α) := by
  unfold Go.runtimePanic
  refine Dies.program fun p => ?_
  cases e <;> first | exact Dies.goPanic _ | (refine Dies.bind (Tame.elemOf _) fun _ => ?_; refine Dies.bind (Tame.newVar _ _) fun _ => ?_; exact Dies.goPanic _)
theorem Dies.boundsPanic (k : IntKind) (x y : Int) (c : BoundsCode) : Dies (boundsPanic k x y c : Sem α) := by
  unfold Go.boundsPanic
  dsimp only
  split
  · refine Dies.bind ?_ fun _ => Dies.runtimePanic _
    exact (Tame.choose _).bind fun _ => Tame.pure _
  · exact Dies.bind (Tame.pure _) fun _ => Dies.runtimePanic _

theorem SS.bind {s : Sem α} {s' : Sem β} {f : α → Sem γ} {f' : β → Sem δ} {Q : Rel → α → β → Prop} {R : Rel → γ → δ → Prop}
    (h : SS X ρ s s' Q) (k : ∀ ρ1 a a', ρ.le ρ1 → Q ρ1 a a' → SS X ρ1 (f a) (f' a') R) : SS X ρ (s >>= f) (s' >>= f') R := by
  refine ⟨fun w w' c w2 es hw hr => ?_, fun w w' x w2 hw hr => ?_, fun w w' hw => (h.3 w w' hw).bind fun a w1 e => ?_⟩
  case refine_3 =>
    obtain ⟨ρ1, a', w1', es1, h1, h2, h3, h4, h5, h6, h7⟩ := h.1 w w' a w1 #[] hw e
    exact (k ρ1 a a' h3.le h6).3 w1 w1' h2
  case refine_2 =>
    rw [Sem.run_bind] at hr
    cases hs : s.run X.P w with
    | halt y wx => rw [hs] at hr; cases hr; exact h.2 w w' _ _ hw hs
    | ok a w1 =>
      rw [hs] at hr
      obtain ⟨ρ1, a', w1', es1, h1, h2, h3, h4, h5, h6, h7⟩ := h.1 w w' a w1 #[] hw hs
      have := (k ρ1 a a' h3.le h6).2 w1 w1' x w2 h2 hr
      exact ⟨this.1, h7.trans this.2⟩
  rw [Sem.run_bind] at hr
  cases hs : s.run X.P w with
  | halt x wx => rw [hs] at hr; cases hr
  | ok a w1 =>
    rw [hs] at hr
    obtain ⟨ρ1, a', w1', es1, h1, h2, h3, h4, h5, h6, h7⟩ := h.1 w w' a w1 es hw hs
    obtain ⟨ρ2, c', w2', es2, k1, k2, k3, k4, k5, k6, k7⟩ := (k ρ1 a a' h3.le h6).1 w1 w1' c w2 (es ++ es1) h2 hr
    refine ⟨ρ2, c', w2', es1 ++ es2, ?_, k2, h3.trans k3 h4, Nat.le_trans h4 k4, fun e he => ?_, k6, h7.trans k7⟩
    · show (s'.bind f').runT X.P' w' es = _
      rw [Sem.runT_bind', h1]
      simp only []
      rw [k1, Array.append_assoc]
    · rcases Array.mem_append.1 he with h' | h'
      · exact (h5 e h').mono k3.le
      · exact k5 e h'
theorem SS.ite {c : Prop} [Decidable c] {s t : Sem α} {s' t' : Sem β} {Q : Rel → α → β → Prop} (h : c → SS X ρ s s' Q) (k : ¬ c → SS X ρ t t' Q) : SS X ρ (if c then s else t) (if c then s' else t') Q := by
  by_cases hc : c
  · rw [if_pos hc, if_pos hc]; exact h hc
  · rw [if_neg hc, if_neg hc]; exact k hc
end

/-! ### addresses, cells -/
structure AR (ρ : Rel) (a a' : Addr) : Prop where
  block : ρ a.block a'.block
  off : a.off = a'.off
  spot : a.spot = a'.spot
theorem AR.add {ρ : Rel} {a a' : Addr} (h : AR ρ a a') (n : Nat) : AR ρ (a.add n) (a'.add n) := by
  unfold Addr.add
  split
  · exact h
  · exact ⟨h.block, by simp [h.off], rfl⟩
theorem AR.mono {ρ ρ' : Rel} {a a' : Addr} (h : AR ρ a a') (k : ρ.le ρ') : AR ρ' a a' := ⟨k _ _ h.block, h.off, h.spot⟩
theorem AR.ptr {F : FuncId → Prop} {ρ : Rel} {a a' : Addr} (h : AR ρ a a') : VR F ρ (.pointer (some a)) (.pointer (some a')) := by
  obtain ⟨b, o, s⟩ := a
  obtain ⟨b', o', s'⟩ := a'
  obtain ⟨h1, h2, h3⟩ := h
  simp only at h1 h2 h3
  subst h2; subst h3
  exact .ptr h1
theorem AR.slice {F : FuncId → Prop} {ρ : Rel} {a a' : Addr} (h : AR ρ a a') (n c : Nat) : VR F ρ (.slice (some a) n c) (.slice (some a') n c) := by
  obtain ⟨b, o, s⟩ := a
  obtain ⟨b', o', s'⟩ := a'
  obtain ⟨h1, h2, h3⟩ := h
  simp only at h1 h2 h3
  subst h2; subst h3
  exact .slice h1

section
variable {X : Cx} {ρ : Rel}

theorem cell_of_load {P : Program} {w w1 : World} {a : Addr} {v : Value} (hr : (load a).run P w = .ok v w1) (hv : ∀ at_ u, w.heap[a.block]? ≠ some (.view at_ u)) : w.cell? a = some v ∧ w1 = w := by
  unfold load at hr
  simp only [Sem.run] at hr
  cases hc : w.cell? a with
  | some x => rw [hc] at hr; simp only [Sem.run] at hr; cases hr; exact ⟨rfl, rfl⟩
  | none =>
    rw [hc] at hr
    simp only [World.farLoad] at hr
    cases hr
theorem WR.cell {w w' : World} (hw : WR X ρ w w') {a a' : Addr} (h : AR ρ a a') {v : Value} (hc : w.cell? a = some v) : ∃ v', w'.cell? a' = some v' ∧ VR X.F ρ v v' := by
  obtain ⟨o, o', h1, h2, h3⟩ := hw.heap h.block
  unfold World.cell? at hc ⊢
  rw [h1] at hc
  rw [h2]
  cases h3 with
  | cells hcs _ =>
    simp only at hc ⊢
    rw [← h.spot]
    split at hc
    · cases hc
    · rename_i hs
      rw [if_neg hs, ← h.off]
      exact hcs.aget hc
  | _ => cases hc
theorem WR.noView {w w' : World} (hw : WR X ρ w w') {a b : Nat} (h : ρ a b) (at_ : Addr) (u : TypeId) : w.heap[a]? ≠ some (.view at_ u) := by
  obtain ⟨o, o', h1, h2, h3⟩ := hw.heap h
  rw [h1]
  intro e
  cases e
  cases h3

theorem SS.load {a a' : Addr} (h : AR ρ a a') : SS X ρ (load a) (load a') (fun ρ1 v v' => VR X.F ρ1 v v') := by
  refine ⟨fun w w' v w1 es hw hr => ?_, fun w w' x w1 hw hr => ?_, fun w w' hw => .one fun es => ?_⟩
  case refine_3 =>
    simp only [Go.load, Sem.runT]
    cases hc : w.cell? a with
    | some v => exact .inr ⟨_, by simp, rfl⟩
    | none =>
      obtain ⟨o, o', h1, h2, h3⟩ := hw.heap h.block
      simp only [World.farLoad, h1]
      cases h3 <;> exact .inl rfl
  case refine_2 =>
    unfold Go.load at hr
    simp only [Sem.run] at hr
    cases hc : w.cell? a with
    | some v => rw [hc] at hr; cases hr
    | none =>
      rw [hc] at hr
      obtain ⟨o, o', h1, h2, h3⟩ := hw.heap h.block
      simp only [World.farLoad, h1] at hr
      cases h3 <;> (simp only [World.noCell, h1] at hr; cases hr; exact ⟨trivial, KC.refl _⟩)
  obtain ⟨hc, rfl⟩ := cell_of_load hr (fun _ _ => hw.noView h.block _ _)
  obtain ⟨v', hc', hv⟩ := hw.cell h hc
  refine ⟨ρ, v', w', #[⟨.cell a', false, false⟩], ?_, hw, Eff.refl .., Nat.le_refl _, fun e he => ?_, hv, KC.refl _⟩
  · show (Sem.load .plain a' .pure).runT X.P' w' es = _
    simp only [Sem.runT, hc']
    simp
    rfl
  · simp at he; subst he
    exact ⟨rfl, _, h.block, by simp⟩

/-- the world with a cell laid anew, on both sides. -/
theorem heap_setCell (w : World) (a : Addr) (v : Value) (b : Nat) : (w.setCell a v).heap[b]? = if b = a.block then (w.heap[b]?).map (fun
      | .cells c elem frozen => .cells (if a.spot.isSome then c else c.setIfInBounds a.off v) elem frozen
      | o => o) else w.heap[b]? := by
  unfold World.setCell
  simp only [Array.getElem?_modify]
  by_cases hb : a.block = b
  · subst hb; simp; rfl
  · rw [if_neg hb, if_neg (fun e => hb e.symm)]
theorem WR.notFrozen {w w' : World} (hw : WR X ρ w w') {a a' : Addr} (h : AR ρ a a') {v : Value} (hc : w.cell? a = some v) (hf : w.frozen? a = false) : w'.frozen? a' = false ∧ ¬ X.Sh a.block := by
  obtain ⟨o, o', h1, h2, h3⟩ := hw.heap h.block
  unfold World.frozen? at hf ⊢
  unfold World.cell? at hc
  rw [h1] at hf hc
  rw [h2]
  cases h3 with
  | @cells c c' e z z' hcs hz =>
    obtain ⟨lo, hi⟩ := z
    simp only at hf hc
    refine ⟨?_, fun hs => ?_⟩
    · rcases hz with rfl | rfl
      · simp only; rw [← h.off]; exact hf
      · simp
    · rcases hw.sh _ hs with ⟨c2, e2, n2, e3, e4⟩ | ⟨_, _, e3⟩
      · rw [h1] at e3
        cases e3
        split at hc
        · cases hc
        · have := (Array.getElem?_eq_some_iff.1 hc).1
          simp at hf
          omega
      · rw [h1] at e3; cases e3
  | _ => cases hc
theorem run_store_ok {P : Program} {w w1 : World} {a : Addr} {v : Value} {u : Unit} (hr : (store a v).run P w = .ok u w1) (hv : ∀ at_ u, w.heap[a.block]? ≠ some (.view at_ u)) :
    (∃ x, w.cell? a = some x) ∧ w.frozen? a = false ∧ w1 = w.setCell a v ∧ (∀ cs, v ≠ .agg cs) ∧ (∀ cs, v ≠ .tuple cs) := by
  unfold store at hr
  have key : (∀ cs, v ≠ .agg cs) ∧ (∀ cs, v ≠ .tuple cs) := by
    refine ⟨fun cs e => ?_, fun cs e => ?_⟩ <;> subst e <;> simp [Sem.run] at hr
  have hr' : (match w.cell? a with
    | some _ => if w.frozen? a then (.halt (.unsupported (.unsafePointer "a write to bytes that a string shares")) w : Result Unit) else (Sem.pure ()).run P (w.setCell a v)
    | none => match w.farStore P a v (Mode.plain == Mode.atomic) with
      | .ok (w, _) => (Sem.pure ()).run P w
      | .error h => .halt h w) = .ok u w1 := by
    cases v <;> first | exact hr | (simp [Sem.run] at hr)
  cases hc : w.cell? a with
  | some x =>
    rw [hc] at hr'
    simp only at hr'
    cases hf : w.frozen? a with
    | true => rw [hf] at hr'; simp at hr'
    | false =>
      rw [hf] at hr'
      simp [Sem.run] at hr'
      exact ⟨⟨x, rfl⟩, rfl, hr'.symm, key⟩
  | none =>
    rw [hc] at hr'
    simp only [World.farStore] at hr'
    cases hr'
theorem runT_store_ok {P : Program} {w : World} {a : Addr} {v x : Value} (hc : w.cell? a = some x) (hf : w.frozen? a = false) (h1 : ∀ cs, v ≠ .agg cs) (h2 : ∀ cs, v ≠ .tuple cs) (es : Array Event) :
    (store a v).runT P w es = (.ok () (w.setCell a v), es.push ⟨.cell a, true, false⟩) := by
  unfold store
  cases v <;> first | (exact absurd rfl (h1 _)) | (exact absurd rfl (h2 _)) | (simp [Sem.runT, hc, hf]; rfl)
theorem SS.store {a a' : Addr} {v v' : Value} (h : AR ρ a a') (hv : VR X.F ρ v v') : SS X ρ (store a v) (store a' v') (fun _ _ _ => True) := by
  refine ⟨fun w w' u w1 es hw hr => ?_, fun w w' x w1 hw hr => ?_, fun w w' hw => .one fun es => ?_⟩
  case refine_3 =>
    obtain ⟨o, o', h1, h2, h3⟩ := hw.heap h.block
    let st : Result Unit × Array Event := match w.cell? a with
      | some _ => if w.frozen? a then (.halt (.unsupported (.unsafePointer "a write to bytes that a string shares")) w, es) else (Sem.pure ()).runT X.P (w.setCell a v) (es.push ⟨.cell a, true, Mode.plain == Mode.atomic⟩)
      | none => match w.farStore X.P a v (Mode.plain == Mode.atomic) with
        | .ok (w, touched) => (Sem.pure ()).runT X.P w (es ++ touched.toArray.map (⟨.cell ·, true, Mode.plain == Mode.atomic⟩))
        | .error h => (.halt h w, es)
    have main : ∀ es0, es0 = st.2 → es0 = es ∨ ∃ e : Event, e.loc ≠ .output ∧ es0 = es.push e := by
      unfold st
      rintro _ rfl
      cases hc : w.cell? a with
      | some y =>
        simp only
        split
        · exact .inl rfl
        · exact .inr ⟨_, by simp, rfl⟩
      | none =>
        simp only [World.farStore, h1]
        cases h3 <;> exact .inl rfl
    cases v <;> first | exact main _ rfl | exact .inl rfl
  case refine_2 =>
    unfold Go.store at hr
    obtain ⟨o, o', h1, h2, h3⟩ := hw.heap h.block
    have main : ∀ (P : Program), (∀ cs, v ≠ .agg cs) → (∀ cs, v ≠ .tuple cs) → (match w.cell? a with
      | some _ => if w.frozen? a then (.halt (.unsupported (.unsafePointer "a write to bytes that a string shares")) w : Result Unit) else (Sem.pure ()).run P (w.setCell a v)
      | none => match w.farStore P a v (Mode.plain == Mode.atomic) with
        | .ok (w, _) => (Sem.pure ()).run P w
        | .error h => .halt h w) = .halt x w1 → Mild x ∧ KC w w1 := by
      intro P _ _ e
      cases hc : w.cell? a with
      | some y =>
        rw [hc] at e
        simp only at e
        split at e
        · cases e; exact ⟨trivial, KC.refl _⟩
        · cases e
      | none =>
        rw [hc] at e
        simp only [World.farStore, h1] at e
        cases h3 <;> (simp only [World.noCell, h1] at e; cases e; exact ⟨trivial, KC.refl _⟩)
    cases v <;> first | (exact main _ (fun _ e => by cases e) (fun _ e => by cases e) hr) | (simp [Sem.run] at hr; obtain ⟨rfl, rfl⟩ := hr; exact ⟨trivial, KC.refl _⟩)
  obtain ⟨⟨x, hc⟩, hf, rfl, n1, n2⟩ := run_store_ok hr (fun _ _ => hw.noView h.block _ _)
  obtain ⟨x', hc', _⟩ := hw.cell h hc
  obtain ⟨hf', hns⟩ := hw.notFrozen h hc hf
  have n1' : ∀ cs, v' ≠ .agg cs := fun cs e => by subst e; cases hv; exact n1 _ rfl
  have n2' : ∀ cs, v' ≠ .tuple cs := fun cs e => by subst e; cases hv; exact n2 _ rfl
  refine ⟨ρ, (), w'.setCell a' v', #[⟨.cell a', true, false⟩], ?_, ?_, ?_, ?_, fun e he => ?_, trivial, fun r n d ds e => ?_⟩
  · rw [runT_store_ok hc' hf' n1' n2']; simp
  · refine ⟨hw.fn, hw.inj, fun {b b'} hb => ?_, hw.tape, fun b hs => ?_⟩
    · obtain ⟨o, o', h1, h2, h3⟩ := hw.heap hb
      rw [heap_setCell, heap_setCell, h1, h2]
      by_cases e : b = a.block
      · subst e
        have e' : b' = a'.block := hw.fn hb h.block
        rw [if_pos rfl, if_pos e']
        refine ⟨_, _, rfl, rfl, ?_⟩
        cases h3 with
        | cells hcs hz =>
          refine .cells ?_ hz
          rw [← h.spot, ← h.off]
          split
          · exact hcs
          · exact hcs.aset _ hv
        | map r => exact .map r
        | stringIter s p => exact .stringIter s p
        | mapIterNil a b c => exact .mapIterNil a b c
        | mapIter r => exact .mapIter r
        | loop a b c d e g => exact .loop a b c d e g
        | number l r => exact .number l r
        | deferredNone => exact .deferredNone
        | deferred => exact .deferred
      · have e' : b' ≠ a'.block := fun e' => e (hw.inj hb (e' ▸ h.block))
        rw [if_neg e, if_neg e']
        exact ⟨o, o', rfl, rfl, h3⟩
    · have : b ≠ a.block := fun e => hns (e ▸ hs)
      rw [heap_setCell, if_neg this]
      exact hw.sh b hs
  · refine ⟨ρ.le_refl, by simp [World.setCell], fun b hb hs => ?_, fun _ _ h => .inl h, ⟨0, rfl⟩, rfl, rfl, rfl, fun _ h1 h2 => absurd h1 (Nat.not_le.2 (by simpa [World.setCell] using h2))⟩
    rw [heap_setCell, if_neg]
    intro e
    exact hns (hs a.block (e ▸ h.block))
  · simp [World.setCell]
  · simp at he; subst he
    exact ⟨rfl, _, h.block, fun _ => hns⟩
  · rw [heap_setCell] at e
    split at e
    · obtain ⟨o, ho, e⟩ := Option.map_eq_some_iff.1 e
      cases o <;> simp at e
      subst e
      exact n _ _ ho
    · exact n _ _ e

/-! ### new blocks, objects -/
def addPair (ρ : Rel) (a b : Nat) : Rel := fun x y => ρ x y ∨ (x = a ∧ y = b)
theorem addPair_le (ρ : Rel) (a b : Nat) : ρ.le (addPair ρ a b) := fun _ _ h => .inl h
theorem WR.bound {w w' : World} (hw : WR X ρ w w') {a b : Nat} (h : ρ a b) : a < w.heap.size ∧ b < w'.heap.size := by
  obtain ⟨o, o', h1, h2, _⟩ := hw.heap h
  exact ⟨(Array.getElem?_eq_some_iff.1 h1).1, (Array.getElem?_eq_some_iff.1 h2).1⟩
theorem SS.newObj {o o' : Obj} (ho : ∀ r r', OR X (addPair ρ r r') o o') : SS X ρ (newObj o) (newObj o') (fun ρ1 r r' => ρ1 r r') := by
  refine ⟨fun w w' r w1 es hw hr => ?_, fun w w' x w1 hw hr => (by cases hr), fun w w' _ => .quiet fun _ => rfl⟩
  have hr' : Result.ok w.heap.size { w with heap := w.heap.push o } = Result.ok r w1 := hr
  cases hr'
  refine ⟨addPair ρ w.heap.size w'.heap.size, w'.heap.size, { w' with heap := w'.heap.push o' }, #[], by rw [Array.append_empty]; rfl, ?_, ?_, by simp, by simp, .inr ⟨rfl, rfl⟩, KC.push fun d ds e => by subst e; have := ho 0 0; cases this⟩
  · refine ⟨fun {a b b'} h1 h2 => ?_, fun {a a' b} h1 h2 => ?_, fun {a b} h => ?_, hw.tape, fun a hs => ?_⟩
    · rcases h1 with h1 | ⟨e1, e2⟩ <;> rcases h2 with h2 | ⟨e3, e4⟩
      · exact hw.fn h1 h2
      · have := (hw.bound h1).1; omega
      · have := (hw.bound h2).1; omega
      · omega
    · rcases h1 with h1 | ⟨e1, e2⟩ <;> rcases h2 with h2 | ⟨e3, e4⟩
      · exact hw.inj h1 h2
      · have := (hw.bound h1).2; omega
      · have := (hw.bound h2).2; omega
      · omega
    · rcases h with h | ⟨e1, e2⟩
      · obtain ⟨x, x', h1, h2, h3⟩ := hw.heap h
        have b := hw.bound h
        refine ⟨x, x', ?_, ?_, h3.mono (addPair_le _ _ _)⟩
        · simp only [Array.getElem?_push]; rw [if_neg (by omega)]; exact h1
        · simp only [Array.getElem?_push]; rw [if_neg (by omega)]; exact h2
      · subst e1; subst e2
        exact ⟨o, o', by simp, by simp, ho _ _⟩
    · have lt : a < w.heap.size := by
        rcases hw.sh a hs with ⟨_, _, _, h, _⟩ | ⟨_, _, h⟩ <;> exact (Array.getElem?_eq_some_iff.1 h).1
      simp only [Array.getElem?_push]
      rw [if_neg (by omega)]
      exact hw.sh a hs
  · refine ⟨addPair_le _ _ _, by simp, fun b hb _ => ?_, fun a b h => ?_, ⟨0, rfl⟩, rfl, rfl, rfl, fun b h1 h2 => ⟨w.heap.size, .inr ⟨rfl, by simp at h2; omega⟩⟩⟩
    · simp only [Array.getElem?_push]; rw [if_neg (by omega)]
    · rcases h with h | ⟨e1, e2⟩
      · exact .inl h
      · exact .inr ⟨by omega, by omega⟩

theorem SS.getObj {r r' : Nat} (h : ρ r r') : SS X ρ (getObj r) (getObj r') (fun ρ1 o o' => OR X ρ1 o o' ∧ (X.Sh r → ∃ es k, o = .map es k) ∧ ∀ c e z, o ≠ .cells c e z) := by
  refine ⟨fun w w' o w1 es hw hr => ?_, fun w w' y w1 hw hr => ?_, fun w w' hw => .one fun es => ?_⟩
  case refine_3 =>
    obtain ⟨x, x', h1, h2, h3⟩ := hw.heap h
    simp only [Go.getObj, Sem.runT, h1]
    cases h3 <;> first | exact .inl rfl | exact .inr ⟨_, by simp, rfl⟩
  case refine_2 =>
    obtain ⟨x, x', h1, h2, h3⟩ := hw.heap h
    simp only [Go.getObj, Sem.run, h1] at hr
    cases h3 <;> simp only [Sem.run] at hr <;> cases hr <;> exact ⟨trivial, KC.refl _⟩
  obtain ⟨x, x', h1, h2, h3⟩ := hw.heap h
  have hsh : X.Sh r → (∃ c e z, x = .cells c e z) ∨ ∃ es k, x = .map es k := fun hs => by
    rcases hw.sh r hs with ⟨c, e, n, h, _⟩ | ⟨es, k, h⟩
    · rw [h1] at h; cases h; exact .inl ⟨_, _, _, rfl⟩
    · rw [h1] at h; cases h; exact .inr ⟨_, _, rfl⟩
  have main : (∀ c e z, x ≠ .cells c e z) ∧ o = x ∧ w1 = w := by
    simp only [Go.getObj, Sem.run, h1] at hr
    cases h3 <;> simp only [Sem.run] at hr <;> cases hr <;> exact ⟨by simp, rfl, rfl⟩
  obtain ⟨n1, rfl, rfl⟩ := main
  have nchan : x'.isChan = false := by cases h3 <;> rfl
  refine ⟨ρ, x', w', #[⟨.obj r', false, false⟩], ?_, hw, Eff.refl .., Nat.le_refl _, fun e he => ?_, ⟨h3, fun hs => ?_, n1⟩, KC.refl _⟩
  · show (Sem.getObj r' .pure).runT X.P' w' es = _
    simp only [Sem.runT, h2]
    cases h3 <;> first | exact absurd rfl (n1 _ _ _) | (simp only [Obj.isChan, Sem.runT, Array.push_eq_append])
  · simp at he; subst he
    exact ⟨rfl, _, h, by simp⟩
  · rcases hsh hs with ⟨_, _, _, e⟩ | e
    · exact absurd e (n1 _ _ _)
    · exact e

theorem SS.setObj {r r' : Nat} {o o' : Obj} (h : ρ r r') (ho : OR X ρ o o') (hs : ¬ X.Sh r) : SS X ρ (setObj r o) (setObj r' o') (fun _ _ _ => True) := by
  refine ⟨fun w w' u w1 es hw hr => ?_, fun w w' y w1 hw hr => ?_, fun w w' hw => .one fun es => ?_⟩
  case refine_3 =>
    obtain ⟨x, x', h1, h2, h3⟩ := hw.heap h
    simp only [Go.setObj, Sem.runT, h1]
    cases h3 <;> first | exact .inl rfl | exact .inr ⟨_, by simp, rfl⟩
  case refine_2 =>
    obtain ⟨x, x', h1, h2, h3⟩ := hw.heap h
    simp only [Go.setObj, Sem.run, h1] at hr
    cases h3 <;> simp only [Sem.run] at hr <;> cases hr <;> exact ⟨trivial, KC.refl _⟩
  obtain ⟨x, x', h1, h2, h3⟩ := hw.heap h
  have main : (∀ c e z, x ≠ .cells c e z) ∧ w1 = { w with heap := w.heap.setIfInBounds r o } := by
    simp only [Go.setObj, Sem.run, h1] at hr
    cases h3 <;> simp only [Sem.run] at hr <;> cases hr <;> exact ⟨by simp, rfl⟩
  obtain ⟨n1, rfl⟩ := main
  have nchan : o'.isChan = false := by cases ho <;> rfl
  refine ⟨ρ, (), { w' with heap := w'.heap.setIfInBounds r' o' }, #[⟨.obj r', true, false⟩], ?_, ?_, ?_, ?_, fun e he => ?_, trivial, fun b n d ds e => ?_⟩
  · show (Sem.setObj r' o' (.pure ())).runT X.P' w' es = _
    simp only [Sem.runT, h2]
    cases h3 <;> first | exact absurd rfl (n1 _ _ _) | (simp only [nchan, Sem.runT, Array.push_eq_append])
  · refine ⟨hw.fn, hw.inj, fun {a b} hab => ?_, hw.tape, fun b hs' => ?_⟩
    · obtain ⟨y, y', k1, k2, k3⟩ := hw.heap hab
      by_cases e : a = r
      · subst e
        have e' : b = r' := hw.fn hab h
        subst e'
        refine ⟨o, o', ?_, ?_, ho⟩
        · simp [(hw.bound hab).1]
        · simp [(hw.bound hab).2]
      · have e' : b ≠ r' := fun e' => e (hw.inj hab (e' ▸ h))
        refine ⟨y, y', ?_, ?_, k3⟩
        · simp only; rw [Array.getElem?_setIfInBounds_ne (Ne.symm e)]; exact k1
        · simp only; rw [Array.getElem?_setIfInBounds_ne (Ne.symm e')]; exact k2
    · have : b ≠ r := fun e => hs (e ▸ hs')
      simp only
      rw [Array.getElem?_setIfInBounds_ne (Ne.symm this)]
      exact hw.sh b hs'
  · refine ⟨ρ.le_refl, by simp, fun b hb hs' => ?_, fun _ _ h => .inl h, ⟨0, rfl⟩, rfl, rfl, rfl, fun _ h1 h2 => absurd h1 (Nat.not_le.2 (by simpa using h2))⟩
    have : b ≠ r' := fun e => hs (hs' r (e ▸ h))
    simp only
    rw [Array.getElem?_setIfInBounds_ne (Ne.symm this)]
  · simp
  · simp at he; subst he
    exact ⟨rfl, _, h, fun _ => hs⟩
  · simp only [Array.getElem?_setIfInBounds] at e
    split at e
    · split at e
      · cases Option.some.inj e; cases ho
      · cases e
    · exact n _ _ e

/-! ### the draw -/
theorem SS.choose (q : Question) : SS X ρ (choose q) (choose q) (fun _ n n' => n = n') := by
  refine ⟨fun w w' n w1 es hw hr => ?_, fun w w' x w1 hw hr => (Tame.choose q _ _).2 _ _ hr, fun w w' _ => (Tame.choose q _ _).3⟩
  have hr' : (if q.forced then Result.ok 0 w else .ok (q.cut (w.tape w.drawn q)) { w with drawn := w.drawn + 1 }) = .ok n w1 := hr
  have ht := hw.tape 0 q
  simp only [Nat.add_zero] at ht
  by_cases hq : q.forced = true
  · rw [if_pos hq] at hr'; cases hr'
    exact ⟨ρ, 0, w', #[], by simp only [Go.choose, Sem.runT, hq, if_true, Array.append_empty], hw, Eff.refl .., Nat.le_refl _, by simp, rfl, KC.refl _⟩
  · rw [if_neg hq] at hr'; cases hr'
    refine ⟨ρ, q.cut (w'.tape w'.drawn q), { w' with drawn := w'.drawn + 1 }, #[], by simp only [Go.choose, Sem.runT, hq, if_false, Array.append_empty, Bool.false_eq_true], ?_, ?_, Nat.le_refl _, by simp, by rw [ht], KC.refl _⟩
    · refine ⟨hw.fn, hw.inj, hw.heap, fun i q' => ?_, hw.sh⟩
      have := hw.tape (i + 1) q'
      simpa [Nat.add_comm, Nat.add_left_comm, Nat.add_assoc] using this
    · exact ⟨ρ.le_refl, Nat.le_refl _, fun _ _ _ => rfl, fun _ _ h => .inl h, ⟨1, rfl⟩, rfl, rfl, rfl, fun _ h1 h2 => absurd h1 (Nat.not_le.2 h2)⟩
theorem SS.markRoom : SS X ρ (mark .noRoom) (mark .noRoom) (fun _ _ _ => True) := by
  refine ⟨fun w w' n w1 es hw hr => ?_, fun w w' x w1 hw hr => (by cases hr), fun w w' _ => (Tame.mark _ _ _).3⟩
  have hr' : Result.ok () w = .ok n w1 := hr
  cases hr'
  exact ⟨ρ, (), w', #[⟨.mark .noRoom, false, true⟩], by simp only [Go.mark, Sem.runT, Array.push_eq_append], hw, Eff.refl .., Nat.le_refl _, by simp [EvOK], trivial, KC.refl _⟩
end

end Go.Proofs.YtkpekiajdlolnabGreat.Sim

/-
  THE SIMULATION, third text: the helpers of the operations: types, variables, parts, keys.
-/
namespace Go.Proofs.YtkpekiajdlolnabGreat.Sim
open Go

def zeroOk (P : Program) (Fb : FuncId → Bool) (t : TypeId) : Bool :=
  match P.info? t with
  | some i => match i.zero with
    | some z => flat Fb z
    | none => true
  | none => true

/-- What is asked of the two programs. -/
structure Cx.Ok (X : Cx) (Fb : FuncId → Bool) : Prop where
  tables : X.P.toTables = X.P'.toTables
  fb : ∀ f, Fb f = true → X.F f
  globals : X.P.globals.size = 0
  boc : ∀ d e o, byteOfCell X.P' d e o = byteOfCell X.P d e o
  cob : ∀ d e o, cellOfByte X.P' d e o = cellOfByte X.P d e o
  calls : ∀ f, X.F f → ∃ fn fn', X.P.funcs[f]? = some fn ∧ X.P'.funcs[f]? = some fn' ∧ fn.body.isNone = false ∧ fn'.body.isNone = false ∧ (fn.name == "runtime.NumGoroutine") = false ∧ (fn'.name == "runtime.NumGoroutine") = false

section
variable {X : Cx} {Fb : FuncId → Bool} {ρ : Rel} {α β : Type}

theorem Cx.Ok.info (H : X.Ok Fb) (t : TypeId) : X.P'.info? t = X.P.info? t := by rw [H.tables]
theorem Cx.Ok.und (H : X.Ok Fb) (t : TypeId) : X.P'.underlying t = X.P.underlying t := by unfold Program.underlying; rw [H.tables]

theorem SS.program {f : Program → Sem α} {g : Program → Sem β} {Q : Rel → α → β → Prop} (h : SS X ρ (f X.P) (g X.P') Q) : SS X ρ (program >>= f) (program >>= g) Q := by
  exact ⟨fun w w' a w1 es hw hr => h.1 w w' a w1 es hw hr, fun w w' x w1 hw hr => h.2 w w' x w1 hw hr, fun w w' hw => h.3 w w' hw⟩
theorem SS.halt {h : Halt} {s' : Sem β} {Q : Rel → α → β → Prop} (m : Mild h := by trivial) : SS X ρ (Sem.halt h : Sem α) s' Q := SS.dies (Dies.halt h m)

theorem SS.typeInfo (H : X.Ok Fb) (t : TypeId) : SS X ρ (typeInfo t) (typeInfo t) (fun _ i i' => i = i' ∧ X.P.info? t = some i) := by
  unfold Go.typeInfo
  refine SS.program ?_
  rw [H.info]
  cases h : X.P.info? t with
  | none => exact SS.halt
  | some i => exact SS.pure ⟨rfl, rfl⟩
theorem SS.underlying (H : X.Ok Fb) (t : TypeId) : SS X ρ (underlying t) (underlying t) (fun _ d d' => d = d' ∧ X.P.underlying t = some d) := by
  unfold Go.underlying
  refine SS.program ?_
  rw [H.und]
  cases h : X.P.underlying t with
  | none => exact SS.halt
  | some i => exact SS.pure ⟨rfl, rfl⟩
theorem SS.sizeOf (H : X.Ok Fb) (t : TypeId) : SS X ρ (sizeOf t) (sizeOf t) (fun _ n n' => n = n' ∧ n = X.P.cellsOf t) := by
  unfold Go.sizeOf
  refine (SS.typeInfo H t).bind fun ρ1 i i' _ ⟨e, h⟩ => ?_
  subst e
  exact SS.pure ⟨rfl, by unfold Program.cellsOf; rw [h]; rfl⟩
theorem SS.isAgg (H : X.Ok Fb) (t : TypeId) : SS X ρ (isAgg t) (isAgg t) (fun _ b b' => b = b') := by
  unfold Go.isAgg
  refine (SS.underlying H t).bind fun ρ1 i i' _ ⟨e, h⟩ => ?_
  subst e
  cases i <;> exact SS.pure rfl
theorem SS.zeroValue (H : X.Ok Fb) (t : TypeId) (hz : zeroOk X.P Fb t = true) : SS X ρ (zeroValue t) (zeroValue t) (fun ρ1 v v' => VR X.F ρ1 v v') := by
  unfold Go.zeroValue
  refine (SS.typeInfo H t).bind fun ρ1 i i' _ ⟨e, h⟩ => ?_
  subst e
  unfold zeroOk at hz
  rw [h] at hz
  simp only at hz
  cases hi : i.zero with
  | none => exact SS.halt
  | some z =>
    rw [hi] at hz
    exact SS.pure (flat_refl H.fb z hz)

/-! ### what a value is -/
theorem SS.asIntOf {v v' : Value} (h : VR X.F ρ v v') : SS X ρ (asIntOf v) (asIntOf v') (fun _ p p' => p = p') := by
  cases h <;> first | exact SS.pure rfl | exact SS.halt
theorem SS.asInt {v v' : Value} (h : VR X.F ρ v v') : SS X ρ (asInt v) (asInt v') (fun _ p p' => p = p') := by
  unfold Go.asInt
  exact (SS.asIntOf h).bind fun _ a a' _ e => SS.pure (by rw [e])
theorem SS.asBool {v v' : Value} (h : VR X.F ρ v v') : SS X ρ (asBool v) (asBool v') (fun _ p p' => p = p') := by
  cases h <;> first | exact SS.pure rfl | exact SS.halt
theorem SS.asString {v v' : Value} (h : VR X.F ρ v v') : SS X ρ (asString v) (asString v') (fun _ p p' => p = p') := by
  cases h <;> first | exact SS.pure rfl | exact SS.halt
theorem SS.asAgg {v v' : Value} (h : VR X.F ρ v v') : SS X ρ (asAgg v) (asAgg v') (fun ρ1 p p' => VsR X.F ρ1 p.toList p'.toList) := by
  cases h <;> first | exact SS.pure ‹_› | exact SS.halt
theorem SS.sureAddr {v v' : Value} (h : VR X.F ρ v v') : SS X ρ (Instr.sureAddr v) (Instr.sureAddr v') (fun ρ1 a a' => AR ρ1 a a') := by
  cases h <;> first | exact SS.pure ⟨‹_›, rfl, rfl⟩ | exact SS.halt
theorem SS.asAddr {v v' : Value} (h : VR X.F ρ v v') : SS X ρ (asAddr v) (asAddr v') (fun ρ1 a a' => AR ρ1 a a') := by
  cases h <;> first | exact SS.pure ⟨‹_›, rfl, rfl⟩ | exact SS.halt | exact SS.dies (Dies.runtimePanic (α := Addr) .nilDeref)

/-! ### variables -/
theorem SS.loadCellsFrom (n : Nat) : ∀ {ρ : Rel} {a a' : Addr} (_ : AR ρ a a') (i : Nat) {acc acc' : Array Value}, VsR X.F ρ acc.toList acc'.toList →
    SS X ρ (loadCellsFrom a i n acc) (loadCellsFrom a' i n acc') (fun ρ1 p p' => VsR X.F ρ1 p.toList p'.toList) := by
  induction n with
  | zero => intro ρ a a' h i acc acc' ha; exact SS.pure ha
  | succ n ih =>
    intro ρ a a' h i acc acc' ha
    unfold Go.loadCellsFrom
    refine (SS.load (h.add i)).bind fun ρ1 v v' le hv => ?_
    exact ih (h.mono le) (i + 1) ((ha.mono le).apush hv)
theorem SS.loadCells {a a' : Addr} (h : AR ρ a a') (n : Nat) : SS X ρ (loadCells a n) (loadCells a' n) (fun ρ1 p p' => VsR X.F ρ1 p.toList p'.toList) :=
  SS.loadCellsFrom n h 0 .nil
theorem SS.storeCells : ∀ {vs vs' : List Value} {ρ : Rel} {a a' : Addr} (_ : AR ρ a a') (i : Nat), VsR X.F ρ vs vs' → SS X ρ (storeCells a vs i) (storeCells a' vs' i) (fun _ _ _ => True)
  | [], vs', ρ, a, a', h, i, hv => by cases hv; exact SS.pure trivial
  | v :: vs, vs', ρ, a, a', h, i, hv => by
    cases hv with
    | cons h1 h2 =>
      unfold Go.storeCells
      refine (SS.store (h.add i) h1).bind fun ρ1 _ _ le _ => ?_
      exact SS.storeCells (h.mono le) (i + 1) (h2.mono le)
theorem SS.loadVar (H : X.Ok Fb) (t : TypeId) {a a' : Addr} (h : AR ρ a a') : SS X ρ (loadVar t a) (loadVar t a') (fun ρ1 v v' => VR X.F ρ1 v v') := by
  unfold Go.loadVar
  refine (SS.isAgg H t).bind fun ρ1 b b' le e => ?_
  subst e
  refine SS.ite (fun _ => ?_) (fun _ => ?_)
  · refine (SS.sizeOf H t).bind fun ρ2 n n' le2 ⟨e, _⟩ => ?_
    subst e
    exact (SS.loadCells ((h.mono le).mono le2) n).bind fun ρ3 c c' _ hc => SS.pure (.agg hc)
  · exact SS.load (h.mono le)
theorem SS.storeVar (H : X.Ok Fb) (t : TypeId) {a a' : Addr} {v v' : Value} (h : AR ρ a a') (hv : VR X.F ρ v v') : SS X ρ (storeVar t a v) (storeVar t a' v') (fun _ _ _ => True) := by
  unfold Go.storeVar
  refine (SS.sizeOf H t).bind fun ρ1 n n' le ⟨e, _⟩ => ?_
  subst e
  dsimp only
  rw [show v'.cells.size = v.cells.size from hv.cells.size.symm]
  refine SS.ite (fun _ => ?_) (fun _ => ?_)
  · exact SS.dies (Dies.bindL (Dies.stuck _))
  · exact SS.storeCells (h.mono le) 0 (hv.cells.mono le)
theorem SS.newRow {c c' : Array Value} (e : TypeId) (h : VsR X.F ρ c.toList c'.toList) : SS X ρ (newRow e c) (newRow e c') (fun ρ1 a a' => AR ρ1 a a') := by
  unfold Go.newRow
  refine (SS.newObj (fun r r' => OR.cells (h.mono (addPair_le ρ r r')) (.inl rfl))).bind fun ρ1 r r' _ hr => ?_
  exact SS.pure ⟨hr, rfl, rfl⟩
theorem SS.newVar (t : TypeId) {v v' : Value} (h : VR X.F ρ v v') : SS X ρ (newVar t v) (newVar t v') (fun ρ1 a a' => AR ρ1 a a') := SS.newRow t h.cells
theorem SS.part (H : X.Ok Fb) (t : TypeId) {cs cs' : Array Value} (off : Nat) (h : VsR X.F ρ cs.toList cs'.toList) : SS X ρ (part t cs off) (part t cs' off) (fun ρ1 v v' => VR X.F ρ1 v v') := by
  unfold Go.part
  refine (SS.isAgg H t).bind fun ρ1 b b' le e => ?_
  subst e
  refine SS.ite (fun _ => ?_) (fun _ => ?_)
  · refine (SS.sizeOf H t).bind fun ρ2 n n' le2 ⟨e, _⟩ => ?_
    subst e
    exact SS.pure (.agg (((h.mono le).mono le2).aextract _ _))
  · cases hc : cs[off]? with
    | none => exact SS.halt
    | some v =>
      obtain ⟨v', h1, h2⟩ := (h.mono le).aget hc
      rw [h1]
      exact SS.pure h2

/-! ### loops over lists -/
theorem SS.forInList {γ : Type} (l : List γ) {ρ : Rel} {Q : Rel → α → β → Prop} (qm : ∀ ρ1 ρ2 a a', ρ1.le ρ2 → Q ρ1 a a' → Q ρ2 a a') {f : γ → α → Sem (ForInStep α)} {f' : γ → β → Sem (ForInStep β)} {a : α} {a' : β} (h0 : Q ρ a a')
    (h : ∀ x ∈ l, ∀ ρ1 b b', ρ.le ρ1 → Q ρ1 b b' → SS X ρ1 (f x b) (f' x b') (fun ρ2 s s' => (∃ c c', s = .yield c ∧ s' = .yield c' ∧ Q ρ2 c c') ∨ (∃ c c', s = .done c ∧ s' = .done c' ∧ Q ρ2 c c'))) :
    SS X ρ (forIn l a f) (forIn l a' f') (fun ρ1 b b' => Q ρ1 b b') := by
  induction l generalizing ρ a a' with
  | nil => exact SS.pure h0
  | cons x l ih =>
    rw [List.forIn_cons, List.forIn_cons]
    refine (h x (by simp) ρ a a' ρ.le_refl h0).bind fun ρ1 s s' le hs => ?_
    rcases hs with ⟨c, c', rfl, rfl, hq⟩ | ⟨c, c', rfl, rfl, hq⟩
    · exact ih hq fun y hy ρ2 b b' le2 hb => h y (by simp [hy]) ρ2 b b' (Rel.le_trans le le2) hb
    · exact SS.pure hq
/-- without a break. -/
theorem SS.forInUnit {γ : Type} (l : List γ) {ρ : Rel} {f f' : γ → PUnit → Sem (ForInStep PUnit)} {a a' : PUnit}
    (h : ∀ x ∈ l, ∀ ρ1, ρ.le ρ1 → SS X ρ1 (f x ⟨⟩) (f' x ⟨⟩) (fun _ s s' => s = .yield ⟨⟩ ∧ s' = .yield ⟨⟩)) : SS X ρ (forIn l a f) (forIn l a' f') (fun _ _ _ => True) :=
  SS.forInList l (Q := fun _ _ _ => True) (fun _ _ _ _ _ _ => trivial) trivial fun x hx ρ1 b b' le _ =>
    (h x hx ρ1 le).mono fun _ s s' _ ⟨e, e'⟩ => .inl ⟨⟨⟩, ⟨⟩, e, e', trivial⟩

/-! ### keys -/
theorem SS.checkKey (H : X.Ok Fb) (b : Bool) : ∀ (n : Nat) (t : TypeId) {ρ : Rel} {v v' : Value}, VR X.F ρ v v' → SS X ρ (Instr.checkKey b n t v) (Instr.checkKey b n t v') (fun _ _ _ => True)
  | 0, t, ρ, v, v', h => SS.dies (Dies.unsupported _)
  | n + 1, t, ρ, v, v', h => by
    unfold Instr.checkKey
    refine (SS.underlying H t).bind fun ρ1 d d' le ⟨e, _⟩ => ?_
    subst e
    cases d <;> cases h <;> first | exact SS.pure trivial | exact SS.halt | skip
    · rename_i len elem _ _ cs cs' hcs
      simp only [Std.Legacy.Range.forIn_eq_forIn_range']
      refine SS.bind (Q := fun _ _ _ => True) (SS.forInUnit _ fun x hx ρ2 le2 => ?_) fun _ _ _ _ _ => SS.pure trivial
      refine (SS.sizeOf H elem).bind fun ρ3 m m' le3 ⟨e, _⟩ => ?_
      subst e
      refine (SS.part H _ _ (((hcs.mono le).mono le2).mono le3)).bind fun ρ4 y y' le4 hy => ?_
      refine (SS.checkKey H b n _ hy).bind fun _ _ _ _ _ => SS.pure ⟨rfl, rfl⟩
    · rename_i fields _ _ cs cs' hcs
      simp only
      rw [← Array.forIn_toList, ← Array.forIn_toList]
      refine SS.bind (Q := fun _ _ _ => True) (SS.forInUnit _ fun x hx ρ2 le2 => ?_) fun _ _ _ _ _ => SS.pure trivial
      refine SS.ite (fun _ => ?_) (fun _ => SS.pure ⟨rfl, rfl⟩)
      refine (SS.part H _ _ ((hcs.mono le).mono le2)).bind fun ρ3 y y' le3 hy => ?_
      refine (SS.checkKey H b n _ hy).bind fun _ _ _ _ _ => SS.pure ⟨rfl, rfl⟩
theorem AR.of {b b' o : Nat} {s : Option Nat} (h : ρ b b') : AR ρ ⟨b, o, s⟩ ⟨b', o, s⟩ := ⟨h, rfl, rfl⟩
/-! ### a block's shape; pointers that are reckoned with -/
theorem WR.shape {w w' : World} (hw : WR X ρ w w') {r r' : Nat} (h : ρ r r') : w'.shape? r' = w.shape? r := by
  obtain ⟨o, o', h1, h2, h3⟩ := hw.heap h
  unfold World.shape?
  rw [h1, h2]
  cases h3 with
  | cells hcs _ => simp only [hcs.size]
  | _ => rfl
theorem SS.shape {r r' : Nat} (h : ρ r r') : SS X ρ (shape r) (shape r') (fun _ s s' => s = s') := by
  refine ⟨fun w w' s w1 es hw hr => ?_, fun w w' x w1 hw hr => (by cases hr), fun w w' _ => .quiet fun _ => rfl⟩
  have hr' : Result.ok (w.shape? r) w = .ok s w1 := hr
  cases hr'
  refine ⟨ρ, w'.shape? r', w', #[], by rw [Array.append_empty]; rfl, hw, Eff.refl .., Nat.le_refl _, by simp, (hw.shape h).symm, KC.refl _⟩
def OAR (ρ : Rel) (b : Bool) (r r' : Option (Addr × Bool)) : Prop := (r = none ∧ r' = none) ∨ (b = true ∧ ∃ a a' l, r = some (a, l) ∧ r' = some (a', l) ∧ AR ρ a a')
theorem SS.numberAt {r r' : Nat} (h : ρ r r') : SS X ρ (numberAt r) (numberAt r') (fun ρ1 q q' => OAR ρ1 true q q') := by
  unfold Go.numberAt
  refine (SS.shape h).bind fun ρ1 s s' le e => ?_
  subst e
  refine SS.ite (fun _ => SS.pure (.inl ⟨rfl, rfl⟩)) (fun _ => ?_)
  refine (SS.getObj (le _ _ h)).bind fun ρ2 o o' le2 ⟨ho, _⟩ => ?_
  cases ho with
  | number l r => exact SS.pure (.inr ⟨rfl, _, _, _, rfl, rfl, ⟨r, rfl, rfl⟩⟩)
  | _ => exact SS.pure (.inl ⟨rfl, rfl⟩)
theorem SS.viewAt {r r' : Nat} (h : ρ r r') : SS X ρ (viewAt r) (viewAt r') (fun _ q q' => q = none ∧ q' = none) := by
  unfold Go.viewAt
  refine (SS.shape h).bind fun ρ1 s s' le e => ?_
  subst e
  refine SS.ite (fun _ => SS.pure ⟨rfl, rfl⟩) (fun _ => ?_)
  refine (SS.getObj (le _ _ h)).bind fun ρ2 o o' le2 ⟨ho, _⟩ => ?_
  cases ho <;> exact SS.pure ⟨rfl, rfl⟩
theorem SS.behindNumber {a a' : Addr} (h : AR ρ a a') : SS X ρ (behindNumber a) (behindNumber a') (fun ρ1 p p' => AR ρ1 p.1 p'.1 ∧ p.2 = p'.2) := by
  unfold Go.behindNumber
  refine (SS.numberAt h.block).bind fun ρ1 q q' le hq => ?_
  rcases hq with ⟨rfl, rfl⟩ | ⟨_, b, b', l, rfl, rfl, hb⟩
  · exact SS.pure ⟨h.mono le, rfl⟩
  · exact SS.pure ⟨hb, rfl⟩
end

end Go.Proofs.YtkpekiajdlolnabGreat.Sim

/-
  THE SIMULATION, fourth text: equality, maps, iterators, loops over functions.
-/
namespace Go.Proofs.YtkpekiajdlolnabGreat.Sim
open Go

/-- A type whose values are compared without looking at memory. -/
def eqTy (P P' : Program) : Nat → TypeId → Bool
  | 0, _ => false
  | d + 1, t => match P.underlying t with
    | some .bool => true
    | some (.int _) => match P.info? t with
      | some i => !(i.desc matches .named "sync.copyChecker" _)
      | none => false
    | some .string => true
    | some (.struct fs) => !(P.stoodInHeld t) && !(P'.stoodInHeld t) && fs.toList.all fun f => f.name == "_" || eqTy P P' d f.type
    | some (.array _ e) => eqTy P P' d e
    | _ => false

section
variable {X : Cx} {Fb : FuncId → Bool} {ρ : Rel} {α β : Type}

/-- Two pointers held against each other as whole numbers: no reckoning of that comes to a value here. -/
theorem SS.intPtr (H : X.Ok Fb) {t : TypeId} {i : TypeInfo} (hi : X.P.info? t = some i) (hn : (i.desc matches .named "sync.copyChecker" _) = false) {a b a' b' : Addr} (ha : AR ρ a a') (hb : AR ρ b b') {Q : Rel → Bool → Bool → Prop} :
    SS X ρ (do
      let (a, b) := ((← Go.behindNumber a).1, (← Go.behindNumber b).1)
      if a.block == b.block && a.block < (← Go.program).globals.size then return (← byteOf a) == (← byteOf b)
      let .named "sync.copyChecker" _ := (← Go.typeInfo t).desc | unsupported .addressObserved
      if a == b then Pure.pure true else unsupported .addressObserved) (do
      let (a, b) := ((← Go.behindNumber a').1, (← Go.behindNumber b').1)
      if a.block == b.block && a.block < (← Go.program).globals.size then return (← byteOf a) == (← byteOf b)
      let .named "sync.copyChecker" _ := (← Go.typeInfo t).desc | unsupported .addressObserved
      if a == b then Pure.pure true else unsupported .addressObserved) Q := by
  refine (SS.behindNumber ha).bind fun ρ1 p p' le ⟨h1, _⟩ => ?_
  refine (SS.behindNumber (hb.mono le)).bind fun ρ2 q q' le2 ⟨h2, _⟩ => ?_
  refine SS.program ?_
  have g1 : X.P.globals.size = 0 := H.globals
  have g2 : X.P'.globals.size = 0 := by rw [← H.globals, H.tables]
  simp only [g1, g2, Nat.not_lt_zero, decide_false, Bool.and_false, Bool.false_eq_true, if_false]
  refine (SS.typeInfo H t).bind fun ρ3 j j' le3 ⟨e, hj⟩ => ?_
  subst e
  rw [hi] at hj; cases hj
  split
  · rename_i hd; rw [hd] at hn; simp at hn
  · exact SS.halt

theorem SS.equalIn (H : X.Ok Fb) : ∀ (d : Nat) (t : TypeId), eqTy X.P X.P' d t = true → ∀ (d2 : Nat) {ρ : Rel} {x x' y y' : Value}, VR X.F ρ x x' → VR X.F ρ y y' → SS X ρ (Op.equalIn d2 t x y) (Op.equalIn d2 t x' y') (fun _ b b' => b = b')
  | 0, _, h, _, _, _, _, _, _, _, _ => by simp [eqTy] at h
  | d + 1, t, h, 0, _, _, _, _, _, _, _ => SS.dies (Dies.unsupported _)
  | d + 1, t, h, d2 + 1, ρ, x, x', y, y', hx, hy => by
    unfold Op.equalIn
    refine (SS.underlying H t).bind fun ρ1 u u' le ⟨e, hu⟩ => ?_
    subst e
    unfold eqTy at h
    rw [hu] at h
    cases u with
    | bool => cases hx <;> cases hy <;> first | exact SS.pure rfl | exact SS.halt
    | string => cases hx <;> cases hy <;> first | exact SS.pure rfl | exact SS.halt
    | int k =>
      simp only at h
      cases hi : X.P.info? t with
      | none => rw [hi] at h; cases h
      | some i =>
        rw [hi] at h
        simp only [Bool.not_eq_true'] at h
        cases hx with
        | int k1 n =>
          cases hy with
          | int k2 m => simp only; exact SS.ite (fun _ => SS.pure rfl) (fun _ => SS.halt)
          | ptrNil => exact SS.halt
          | ptr r =>
            by_cases h0 : n = 0
            · subst h0; exact SS.pure rfl
            · simp only
              split
              all_goals first | (exfalso; simp_all; done) | exact SS.halt | skip
              all_goals (rename_i e; exfalso; simp at e)
          | _ => exact SS.halt
        | ptrNil => cases hy <;> first | exact SS.halt | skip
        | ptr r =>
          cases hy with
          | int k2 m =>
            by_cases h0 : m = 0
            · subst h0; exact SS.pure rfl
            · simp only
              split
              all_goals first | (exfalso; simp_all; done) | exact SS.halt | skip
              all_goals (rename_i e; exfalso; simp at e)
          | ptr r2 => exact SS.intPtr H hi h (AR.of (le _ _ r)) (AR.of (le _ _ r2))
          | _ => exact SS.halt
        | _ => cases hy <;> first | exact SS.halt | skip
    | struct fs =>
      simp only [Bool.and_eq_true, Bool.not_eq_true', List.all_eq_true, Bool.or_eq_true, beq_iff_eq] at h
      obtain ⟨⟨h1, h2⟩, h3⟩ := h
      cases hx <;> cases hy <;> first | exact SS.halt | skip
      rename_i cs cs' hcs xs xs' hxs
      simp only
      refine SS.program ?_
      simp only [h1, h2, Bool.false_eq_true, if_false]
      rw [← Array.forIn_toList, ← Array.forIn_toList]
      refine SS.bind (Q := fun _ s s' => s = s') (SS.forInList _ (Q := fun _ s s' => s = s') (fun _ _ _ _ _ e => e) rfl fun f hf ρ2 b b' le2 e => ?_) fun _ s s' _ e => ?_
      · refine SS.ite (fun hn => ?_) (fun _ => SS.pure (.inl ⟨_, _, rfl, rfl, rfl⟩))
        refine (SS.part H _ _ ((hcs.mono le).mono le2)).bind fun ρ3 v v' le3 hv => ?_
        refine (SS.part H _ _ (((hxs.mono le).mono le2).mono le3)).bind fun ρ4 z z' le4 hz => ?_
        refine (SS.equalIn H d f.type ((h3 f hf).resolve_left hn) d2 (hv.mono le4) hz).bind fun ρ5 q q' _ e => ?_
        subst e
        exact SS.ite (fun _ => SS.pure (.inr ⟨_, _, rfl, rfl, rfl⟩)) (fun _ => SS.pure (.inl ⟨_, _, rfl, rfl, rfl⟩))
      · subst e
        cases s.fst <;> exact SS.pure rfl
    | array l e =>
      simp only at h
      cases hx <;> cases hy <;> first | exact SS.halt | skip
      rename_i cs cs' hcs xs xs' hxs
      simp only
      refine (SS.sizeOf H e).bind fun ρ2 m m' le2 ⟨em, _⟩ => ?_
      subst em
      simp only [Std.Legacy.Range.forIn_eq_forIn_range']
      refine SS.bind (Q := fun _ s s' => s = s') (SS.forInList _ (Q := fun _ s s' => s = s') (fun _ _ _ _ _ e => e) rfl fun f hf ρ3 b b' le3 e => ?_) fun _ s s' _ e => ?_
      · refine (SS.part H _ _ (((hcs.mono le).mono le2).mono le3)).bind fun ρ4 v v' le4 hv => ?_
        refine (SS.part H _ _ ((((hxs.mono le).mono le2).mono le3).mono le4)).bind fun ρ5 z z' le5 hz => ?_
        refine (SS.equalIn H d _ h d2 (hv.mono le5) hz).bind fun ρ6 q q' _ e => ?_
        subst e
        exact SS.ite (fun _ => SS.pure (.inr ⟨_, _, rfl, rfl, rfl⟩)) (fun _ => SS.pure (.inl ⟨_, _, rfl, rfl, rfl⟩))
      · subst e
        cases s.fst <;> exact SS.pure rfl
    | _ => cases h

/-! ### maps -/
theorem EsR.length {F : FuncId → Prop} : ∀ {l l' : List MapEntry}, EsR F ρ l l' → l.length = l'.length
  | _, _, .nil => rfl
  | _, _, .cons _ b => by simp [b.length]
theorem EsR.append {F : FuncId → Prop} : ∀ {l l' m m' : List MapEntry}, EsR F ρ l l' → EsR F ρ m m' → EsR F ρ (l ++ m) (l' ++ m')
  | _, _, _, _, .nil, h => h
  | _, _, _, _, .cons a b, h => .cons a (b.append h)
theorem EsR.get? {F : FuncId → Prop} : ∀ {l l' : List MapEntry}, EsR F ρ l l' → ∀ (i : Nat) {e : MapEntry}, l[i]? = some e → ∃ e', l'[i]? = some e' ∧ ER F ρ e e'
  | _, _, .nil, i, v, h => by simp at h
  | _, _, .cons a b, 0, v, h => by simp at h; subst h; exact ⟨_, rfl, a⟩
  | _, _, .cons a b, i + 1, v, h => by simpa using b.get? i (by simpa using h)
theorem EsR.eraseIdx {F : FuncId → Prop} : ∀ {l l' : List MapEntry}, EsR F ρ l l' → ∀ (i : Nat), EsR F ρ (l.eraseIdx i) (l'.eraseIdx i)
  | _, _, .nil, _ => .nil
  | _, _, .cons _ b, 0 => b
  | _, _, .cons a b, i + 1 => .cons a (b.eraseIdx i)
theorem EsR.set {F : FuncId → Prop} : ∀ {l l' : List MapEntry}, EsR F ρ l l' → ∀ (i : Nat) {e e' : MapEntry}, ER F ρ e e' → EsR F ρ (l.set i e) (l'.set i e')
  | _, _, .nil, _, _, _, _ => .nil
  | _, _, .cons _ b, 0, _, _, h => .cons h b
  | _, _, .cons a b, i + 1, _, _, h => .cons a (b.set i h)
theorem EsR.filter {F : FuncId → Prop} (p q : MapEntry → Bool) (hpq : ∀ e e', ER F ρ e e' → p e = q e') : ∀ {l l' : List MapEntry}, EsR F ρ l l' → EsR F ρ (l.filter p) (l'.filter q)
  | _, _, .nil => .nil
  | _, _, .cons a b => by
    rename_i e e' l l'
    rw [List.filter_cons, List.filter_cons, hpq _ _ a]
    split
    · exact .cons a (b.filter p q hpq)
    · exact b.filter p q hpq
theorem EsR.all {F : FuncId → Prop} (p q : MapEntry → Bool) (hpq : ∀ e e', ER F ρ e e' → p e = q e') : ∀ {l l' : List MapEntry}, EsR F ρ l l' → l.all p = l'.all q
  | _, _, .nil => rfl
  | _, _, .cons a b => by simp [hpq _ _ a, b.all p q hpq]
theorem EsR.find {F : FuncId → Prop} (p q : MapEntry → Bool) (hpq : ∀ e e', ER F ρ e e' → p e = q e') : ∀ {l l' : List MapEntry}, EsR F ρ l l' → ∀ {e : MapEntry}, l.find? p = some e → ∃ e', l'.find? q = some e' ∧ ER F ρ e e'
  | _, _, .nil, e, h => by cases h
  | _, _, .cons a b, e, h => by
    rw [List.find?_cons] at h ⊢
    rw [← hpq _ _ a]
    split at h
    · cases h; exact ⟨_, rfl, a⟩
    · exact b.find p q hpq h

theorem sameNow_R {F : FuncId → Prop} {x x' y y' : Value} (hx : VR F ρ x x') (hy : VR F ρ y y') (d : TypeDesc) : Instr.sameNow d x y = Instr.sameNow d x' y' := by
  cases d <;> cases hx <;> cases hy <;> rfl
theorem findNow_R {F : FuncId → Prop} {k k' : Value} (hk : VR F ρ k k') (d : TypeDesc) : ∀ {l l' : List MapEntry}, EsR F ρ l l' → ∀ (i : Nat),
    (Instr.findNow d k l i = none ∧ Instr.findNow d k' l' i = none) ∨ (Instr.findNow d k l i = some none ∧ Instr.findNow d k' l' i = some none) ∨
      ∃ j v v', Instr.findNow d k l i = some (some (j, v)) ∧ Instr.findNow d k' l' i = some (some (j, v')) ∧ VR F ρ v v'
  | _, _, .nil, i => .inr (.inl ⟨rfl, rfl⟩)
  | _, _, .cons a b, i => by
    unfold Instr.findNow
    rw [← sameNow_R hk a.key d]
    split
    · exact .inr (.inr ⟨_, _, _, rfl, rfl, a.val⟩)
    · exact findNow_R hk d b (i + 1)
    · exact .inl ⟨rfl, rfl⟩
theorem SS.findAsking (H : X.Ok Fb) {t : TypeId} {dep : Nat} (ht : eqTy X.P X.P' dep t = true) : ∀ {l l' : List MapEntry} {ρ : Rel} {k k' : Value}, VR X.F ρ k k' → EsR X.F ρ l l' → ∀ (i : Nat),
    SS X ρ (Instr.findAsking t k l i) (Instr.findAsking t k' l' i) (fun ρ1 r r' => (r = none ∧ r' = none) ∨ ∃ j v v', r = some (j, v) ∧ r' = some (j, v') ∧ VR X.F ρ1 v v')
  | [], _, ρ, k, k', hk, h, i => by cases h; exact SS.pure (.inl ⟨rfl, rfl⟩)
  | e :: l, _, ρ, k, k', hk, h, i => by
    cases h with
    | cons a b =>
      unfold Instr.findAsking
      refine (SS.equalIn H _ t ht _ hk a.key).bind fun ρ1 q q' le e => ?_
      subst e
      refine SS.ite (fun _ => SS.pure (.inr ⟨_, _, _, rfl, rfl, a.val.mono le⟩)) (fun _ => ?_)
      exact SS.findAsking H ht (hk.mono le) (b.mono le) (i + 1)
theorem SS.findKey (H : X.Ok Fb) {t : TypeId} {dep : Nat} (ht : eqTy X.P X.P' dep t = true) {l l' : List MapEntry} {k k' : Value} (hk : VR X.F ρ k k') (h : EsR X.F ρ l l') :
    SS X ρ (Instr.findKey t k l) (Instr.findKey t k' l') (fun ρ1 r r' => (r = none ∧ r' = none) ∨ ∃ j v v', r = some (j, v) ∧ r' = some (j, v') ∧ VR X.F ρ1 v v') := by
  unfold Instr.findKey
  refine (SS.underlying H t).bind fun ρ1 d d' le ⟨e, _⟩ => ?_
  subst e
  rcases findNow_R (hk.mono le) d (h.mono le) 0 with ⟨h1, h2⟩ | ⟨h1, h2⟩ | ⟨j, v, v', h1, h2, h3⟩
  · rw [h1, h2]; exact SS.findAsking H ht (hk.mono le) (h.mono le) 0
  · rw [h1, h2]; exact SS.pure (.inl ⟨rfl, rfl⟩)
  · rw [h1, h2]; exact SS.pure (.inr ⟨_, _, _, rfl, rfl, h3⟩)

theorem SS.lookup (H : X.Ok Fb) (xt : TypeId) (key elem : TypeId) (hx : X.P.underlying xt = some (.map key elem)) {dep : Nat} (hk : eqTy X.P X.P' dep key = true) (hz : zeroOk X.P Fb elem = true) {m m' k k' : Value} (hm : VR X.F ρ m m') (hkk : VR X.F ρ k k') (ok : Bool) :
    SS X ρ (Instr.lookup xt m k ok) (Instr.lookup xt m' k' ok) (fun ρ1 v v' => VR X.F ρ1 v v') := by
  unfold Instr.lookup
  refine (SS.underlying H xt).bind fun ρ1 d d' le ⟨e, hd⟩ => ?_
  subst e
  rw [hx] at hd; cases hd
  simp only
  have tail : ∀ (ρ2 : Rel) (es es' : Array MapEntry), ρ1.le ρ2 → EsR X.F ρ2 es.toList es'.toList → SS X ρ2
      (do
        Instr.checkKey es.isEmpty 10000 key k
        let (v, ok1) ← match ← Instr.findKey key k es.toList with
          | some (_, v) => Pure.pure (v, true)
          | none => Pure.pure (← Go.zeroValue elem, false)
        Pure.pure (if ok then Value.tuple #[v, .bool ok1] else v))
      (do
        Instr.checkKey es'.isEmpty 10000 key k'
        let (v, ok1) ← match ← Instr.findKey key k' es'.toList with
          | some (_, v) => Pure.pure (v, true)
          | none => Pure.pure (← Go.zeroValue elem, false)
        Pure.pure (if ok then Value.tuple #[v, .bool ok1] else v)) (fun ρ1 v v' => VR X.F ρ1 v v') := by
    intro ρ2 es es' le2 hes
    have emp : es'.isEmpty = es.isEmpty := by
      have := hes.length
      simp only [Array.length_toList] at this
      simp [Array.isEmpty, this]
    rw [emp]
    refine (SS.checkKey H _ _ _ ((hkk.mono le).mono le2)).bind fun ρ3 _ _ le3 _ => ?_
    refine (SS.findKey H hk (((hkk.mono le).mono le2).mono le3) (hes.mono le3)).bind fun ρ4 r r' le4 hr => ?_
    have fin : ∀ (ρ5 : Rel) (v v' : Value) (b : Bool), VR X.F ρ5 v v' → SS X ρ5 (Pure.pure (if ok then Value.tuple #[v, .bool b] else v)) (Pure.pure (if ok then Value.tuple #[v', .bool b] else v')) (fun ρ1 v v' => VR X.F ρ1 v v') := fun ρ5 v v' b h => by
      cases ok
      · exact SS.pure h
      · exact SS.pure (.tuple (.cons h (.cons (.bool _) .nil)))
    rcases hr with ⟨rfl, rfl⟩ | ⟨j, v, v', rfl, rfl, hv⟩
    · exact (SS.zeroValue H elem hz).bind fun _ z z' _ hz' => fin _ _ _ _ hz'
    · exact fin _ _ _ _ hv
  cases hm with
  | mapNil => exact tail ρ1 #[] #[] ρ1.le_refl .nil
  | map r =>
    simp only
    refine (SS.getObj (le _ _ r)).bind fun ρ2 o o' le2 ⟨ho, _⟩ => ?_
    cases ho with
    | @map es es' clock hes => exact tail ρ2 es es' le2 hes
    | _ => exact SS.halt
  | _ => exact SS.halt

/-! ### iterators -/
theorem SS.range (H : X.Ok Fb) (t : TypeId) {x x' : Value} (hx : VR X.F ρ x x') : SS X ρ (Instr.range t x) (Instr.range t x') (fun ρ1 v v' => VR X.F ρ1 v v') := by
  unfold Instr.range
  refine (SS.underlying H t).bind fun ρ1 d d' le ⟨e, hd⟩ => ?_
  subst e
  have tail : ∀ (ρ2 : Rel) (o o' : Obj), (∀ r r', OR X (addPair ρ2 r r') o o') → SS X ρ2 (do Pure.pure (Value.pointer (some ⟨← Go.newObj o, 0, none⟩))) (do Pure.pure (Value.pointer (some ⟨← Go.newObj o', 0, none⟩))) (fun ρ1 v v' => VR X.F ρ1 v v') :=
    fun ρ2 o o' ho => (SS.newObj ho).bind fun _ r r' _ hr => SS.pure (.ptr hr)
  cases d <;> cases hx <;> first | exact SS.halt | exact tail _ _ _ (fun _ _ => .stringIter _ _) | exact tail _ _ _ (fun _ _ => .mapIterNil _ _ _) | skip
  rename_i r
  simp only
  refine (SS.getObj (le _ _ r)).bind fun ρ2 o o' le2 ⟨ho, _⟩ => ?_
  cases ho with
  | map _ => exact tail _ _ _ (fun a b => .mapIter (addPair_le ρ2 a b _ _ (le2 _ _ (le _ _ r))))
  | _ => exact SS.halt

theorem SS.next (H : X.Ok Fb) {it it' : Value} (h : VR X.F ρ it it') (b : Bool) (t : TypeId) : SS X ρ (Instr.next it b t) (Instr.next it' b t) (fun ρ1 v v' => VR X.F ρ1 v v') := by
  unfold Instr.next
  cases h with
  | @ptr r r' o s hr =>
    cases o with
    | succ n => exact SS.halt
    | zero =>
      simp only
      refine (SS.getObj hr).bind fun ρ1 o o' le ⟨ho, hsh, _⟩ => ?_
      have over : ∀ ρ2, SS X ρ2 (Pure.pure (Value.tuple #[.bool false])) (Pure.pure (Value.tuple #[.bool false])) (fun ρ1 v v' => VR X.F ρ1 v v') := fun _ => SS.pure (.tuple (.cons (.bool _) .nil))
      cases ho with
      | stringIter s p =>
        have ns : ¬ X.Sh r := fun hs => by obtain ⟨_, _, e⟩ := hsh hs; cases e
        cases b with
        | false => exact SS.halt
        | true =>
          simp only
          refine SS.ite (fun _ => ?_) (fun _ => over _)
          refine (SS.setObj (le _ _ hr) (.stringIter _ _) ns).bind fun _ _ _ _ _ => SS.pure (.tuple (.cons (.bool _) (.cons (.int _ _) (.cons (.int _ _) .nil))))
      | mapIterNil a c d => cases b <;> first | exact over _ | exact SS.halt
      | @mapIter m m' since seen last hm =>
        have ns : ¬ X.Sh r := fun hs => by obtain ⟨_, _, e⟩ := hsh hs; cases e
        cases b with
        | true => exact SS.halt
        | false =>
          simp only
          refine (SS.getObj hm).bind fun ρ2 o o' le2 ⟨ho2, _⟩ => ?_
          cases ho2 with
          | @map es es' clock hes => ?_
          | _ => exact SS.halt
          simp only
          have born : ∀ e e', ER X.F ρ2 e e' → e.born = e'.born := fun e e' h => h.born
          have eemp : es'.isEmpty = es.isEmpty := by
            have := hes.length
            simp only [Array.length_toList] at this
            simp [Array.isEmpty, this]
          have eall : es'.all (fun x => decide (x.born ≥ last)) = es.all (fun x => decide (x.born ≥ last)) := by
            rw [← Array.all_toList, ← Array.all_toList]
            exact (hes.all _ _ (fun e e' h => by rw [h.born])).symm
          rw [eemp, eall]
          refine SS.ite (fun _ => SS.dies (Dies.bindL (Dies.unsupported _))) (fun _ => ?_)
          generalize hl : (es.filter fun e => !seen.contains e.born) = left
          generalize hl' : (es'.filter fun e => !seen.contains e.born) = left'
          have hleft : EsR X.F ρ2 left.toList left'.toList := by
            subst hl; subst hl'
            rw [Array.toList_filter, Array.toList_filter]
            exact hes.filter _ _ (fun e e' h => by rw [h.born])
          generalize ho3 : (left.filter fun e => decide (e.born < since)) = old
          generalize ho3' : (left'.filter fun e => decide (e.born < since)) = old'
          have hold : EsR X.F ρ2 old.toList old'.toList := by
            subst ho3; subst ho3'
            rw [Array.toList_filter, Array.toList_filter]
            exact hleft.filter _ _ (fun e e' h => by rw [h.born])
          generalize hn3 : (left.filter fun e => decide (e.born ≥ since)) = new
          generalize hn3' : (left'.filter fun e => decide (e.born ≥ since)) = new'
          have hnew : EsR X.F ρ2 new.toList new'.toList := by
            subst hn3; subst hn3'
            rw [Array.toList_filter, Array.toList_filter]
            exact hleft.filter _ _ (fun e e' h => by rw [h.born])
          have oemp : old'.isEmpty = old.isEmpty := by
            have := hold.length
            simp only [Array.length_toList] at this
            simp [Array.isEmpty, this]
          rw [oemp]
          have hall : EsR X.F ρ2 (old ++ new).toList (old' ++ new').toList := by
            rw [Array.toList_append, Array.toList_append]; exact hold.append hnew
          have hsz : (old ++ new).size = (old' ++ new').size := by simpa using hall.length
          generalize old ++ new = cand at hall hsz
          generalize old' ++ new' = cand' at hall hsz
          generalize hpre : (if old.isEmpty = true then (#[none] : Array (Option MapEntry)) else #[]) = pre
          have esz : (pre ++ cand'.map some).size = (pre ++ cand.map some).size := by simp [hsz]
          rw [esz]
          refine (SS.choose _).bind fun ρ3 n n' le3 e => ?_
          subst e
          have getc : ∀ i : Nat, ((pre ++ cand.map some)[i]? = none ∧ (pre ++ cand'.map some)[i]? = none) ∨ ((pre ++ cand.map some)[i]? = some none ∧ (pre ++ cand'.map some)[i]? = some none) ∨ ∃ e e', (pre ++ cand.map some)[i]? = some (some e) ∧ (pre ++ cand'.map some)[i]? = some (some e') ∧ ER X.F ρ2 e e' := by
            intro i
            rw [Array.getElem?_append, Array.getElem?_append]
            split
            · rename_i hlt
              have : pre = #[none] := by
                subst hpre; split
                · rfl
                · rename_i h; rw [if_neg h] at hlt; simp at hlt
              subst this
              have : i = 0 := by simp at hlt; exact hlt
              subst this
              exact .inr (.inl ⟨rfl, rfl⟩)
            · simp only [Array.getElem?_map]
              cases hc : cand[i - pre.size]? with
              | none =>
                have : cand'[i - pre.size]? = none := by
                  rw [Array.getElem?_eq_none_iff] at hc ⊢; omega
                rw [this]; exact .inl ⟨rfl, rfl⟩
              | some e =>
                obtain ⟨e', h1, h2⟩ := hall.get? (i - pre.size) (e := e) (by simpa using hc)
                have h1' : cand'[i - pre.size]? = some e' := by simpa using h1
                rw [h1']; exact .inr (.inr ⟨e, e', rfl, rfl, h2⟩)
          rcases getc n with ⟨h1, h2⟩ | ⟨h1, h2⟩ | ⟨e, e', h1, h2, h3⟩
          · rw [h1, h2]; exact SS.halt
          · rw [h1, h2]; exact over _
          · rw [h1, h2]
            simp only
            rw [← h3.born]
            refine (SS.setObj (le3 _ _ (le2 _ _ (le _ _ hr))) (.mapIter (le3 _ _ (le2 _ _ hm))) ns).bind fun ρ4 _ _ le4 _ => ?_
            exact SS.pure (.tuple (.cons (.bool _) (.cons ((h3.key.mono le3).mono le4) (.cons ((h3.val.mono le3).mono le4) .nil))))
      | _ => cases b <;> exact SS.halt
  | _ => exact SS.halt

theorem SS.entry {it it' : Value} (h : VR X.F ρ it it') : SS X ρ (Instr.entry it) (Instr.entry it') (fun ρ1 v v' => VR X.F ρ1 v v') := by
  unfold Instr.entry
  cases h with
  | @ptr r r' o s hr =>
    cases o with
    | succ n => exact SS.halt
    | zero =>
      simp only
      refine (SS.getObj hr).bind fun ρ1 o o' le ⟨ho, _⟩ => ?_
      cases ho with
      | @mapIter m m' since seen st hm => ?_
      | _ => exact SS.halt
      simp only
      cases hb : seen.back? with
      | none => exact SS.halt
      | some stamp =>
        simp only
        refine (SS.getObj hm).bind fun ρ2 o o' le2 ⟨ho2, _⟩ => ?_
        cases ho2 with
        | @map es es' clock hes => ?_
        | _ => exact SS.halt
        simp only
        refine SS.ite (fun _ => SS.dies (Dies.bindL (Dies.unsupported _))) (fun _ => ?_)
        cases hf : es.find? (fun x => x.born == stamp) with
        | none => exact SS.halt
        | some e =>
          rw [← Array.find?_toList] at hf
          obtain ⟨e', h1, h2⟩ := hes.find _ (fun x => x.born == stamp) (fun e e' h => by rw [h.born]) hf
          rw [Array.find?_toList] at h1
          rw [h1]
          exact SS.pure (.tuple (.cons h2.key (.cons h2.val .nil)))
  | _ => exact SS.halt
end

end Go.Proofs.YtkpekiajdlolnabGreat.Sim

/-
  THE SIMULATION, fifth text: the operations that write maps; slices, fields, indices, aggregates; numbers.
-/
namespace Go.Proofs.YtkpekiajdlolnabGreat.Sim
open Go

section
variable {X : Cx} {Fb : FuncId → Bool} {ρ : Rel} {α β : Type}

theorem sameBits_R {F : FuncId → Prop} (fn : ∀ a b b', ρ a b → ρ a b' → b = b') (inj : ∀ a a' b, ρ a b → ρ a' b → a = a') : ∀ (n : Nat) {x x' y y' : Value}, VR F ρ x x' → VR F ρ y y' → Instr.sameBits n x y = Instr.sameBits n x' y'
  | 0, x, x', y, y', hx, hy => by
    cases hx <;> cases hy <;> first | rfl | skip
    rename_i b b' o s r c c' o2 s2 r2
    simp only [Instr.sameBits]
    have : b = c ↔ b' = c' := ⟨fun e => by subst e; exact fn _ _ _ r r2, fun e => by subst e; exact inj _ _ _ r r2⟩
    rw [Bool.eq_iff_iff]; simp [this]
  | n + 1, x, x', y, y', hx, hy => by
    cases hx <;> cases hy <;> first | rfl | skip
    · rename_i b b' o s r c c' o2 s2 r2
      simp only [Instr.sameBits]
      have : b = c ↔ b' = c' := ⟨fun e => by subst e; exact fn _ _ _ r r2, fun e => by subst e; exact inj _ _ _ r r2⟩
      rw [Bool.eq_iff_iff]; simp [this]
    · rename_i cs cs' h ds ds' k
      simp only [Instr.sameBits]
      have key : ∀ (l l' m m' : List Value), VsR F ρ l l' → VsR F ρ m m' → ((l.zip m).all fun (x, y) => Instr.sameBits n x y) = ((l'.zip m').all fun (x, y) => Instr.sameBits n x y) := by
        intro l
        induction l with
        | nil => intro l' m m' h1 h2; cases h1; simp
        | cons v l ih =>
          intro l' m m' h1 h2
          cases h1 with
          | cons a b =>
            cases h2 with
            | nil => simp
            | cons c d => simp [sameBits_R fn inj n a c, ih _ _ _ b d]
      rw [key _ _ _ _ h k, h.size, k.size]
theorem SS.keyThatStays {x x' y y' : Value} (hx : VR X.F ρ x x') (hy : VR X.F ρ y y') : SS X ρ (Instr.keyThatStays x y) (Instr.keyThatStays x' y') (fun ρ1 v v' => VR X.F ρ1 v v') := by
  have main : ∀ {w w' : World}, WR X ρ w w' → SS X ρ (Instr.keyThatStays x y) (Instr.keyThatStays x' y') (fun ρ1 v v' => VR X.F ρ1 v v') := by
    intro w w' hw
    have e := sameBits_R (F := X.F) (ρ := ρ) (fun a b b' h k => hw.fn h k) (fun a a' b h k => hw.inj h k) 10000 hx hy
    unfold Instr.keyThatStays
    rw [← e]
    refine SS.ite (fun _ => SS.pure hy) (fun _ => ?_)
    refine (SS.choose _).bind fun ρ1 n n' le en => ?_
    subst en
    refine SS.pure ?_
    split
    · exact hy.mono le
    · exact hx.mono le
  exact ⟨fun w w' a w1 es hw => (main hw).1 w w' a w1 es hw, fun w w' x w1 hw => (main hw).2 w w' x w1 hw, fun w w' hw => (main hw).3 w w' hw⟩

theorem SS.mapUpdate (H : X.Ok Fb) (hns : ∀ b, ¬ X.Sh b) (xt : TypeId) (key elem : TypeId) (hx : X.P.underlying xt = some (.map key elem)) {dep : Nat} (hk : eqTy X.P X.P' dep key = true) {m m' k k' v v' : Value}
    (hm : VR X.F ρ m m') (hkk : VR X.F ρ k k') (hv : VR X.F ρ v v') : SS X ρ (Instr.mapUpdate xt m k v) (Instr.mapUpdate xt m' k' v') (fun _ _ _ => True) := by
  unfold Instr.mapUpdate
  refine (SS.underlying H xt).bind fun ρ1 d d' le ⟨e, hd⟩ => ?_
  subst e
  rw [hx] at hd; cases hd
  simp only
  cases hm with
  | mapNil => exact SS.dies (Dies.runtimePanic _)
  | map r =>
    simp only
    refine (SS.getObj (le _ _ r)).bind fun ρ2 o o' le2 ⟨ho, _⟩ => ?_
    cases ho with
    | @map es es' clock hes => ?_
    | _ => exact SS.halt
    simp only
    refine (SS.checkKey H _ _ _ ((hkk.mono le).mono le2)).bind fun ρ3 _ _ le3 _ => ?_
    refine (SS.findKey H hk (((hkk.mono le).mono le2).mono le3) (hes.mono le3)).bind fun ρ4 q q' le4 hq => ?_
    have le04 : ρ.le ρ4 := Rel.le_trans le (Rel.le_trans le2 (Rel.le_trans le3 le4))
    have hes4 := (hes.mono le3).mono le4
    rcases hq with ⟨rfl, rfl⟩ | ⟨j, y, y', rfl, rfl, _⟩
    · simp only
      refine SS.setObj (le04 _ _ r) (.map ?_) (hns _)
      rw [Array.toList_push, Array.toList_push]
      exact hes4.append (.cons ⟨hkk.mono le04, hv.mono le04, rfl⟩ .nil)
    · simp only
      refine SS.bind (SS.keyThatStays (x' := ((es'[j]?).map (·.key)).getD k') ?_ (hkk.mono le04)) fun ρ5 z z' le5 hz => ?_
      · cases hj : es[j]? with
        | none =>
          have : es'[j]? = none := by
            have := hes4.length
            simp only [Array.length_toList] at this
            rw [Array.getElem?_eq_none_iff] at hj ⊢; omega
          rw [this]; exact hkk.mono le04
        | some e =>
          obtain ⟨e', h1, h2⟩ := hes4.get? j (e := e) (by simpa using hj)
          have h1' : es'[j]? = some e' := by simpa using h1
          rw [h1']; exact h2.key
      · refine SS.setObj (le5 _ _ (le04 _ _ r)) (.map ?_) (hns _)
        have hes5 := hes4.mono le5
        have upd : ∀ (es : Array MapEntry) (f : MapEntry → MapEntry), (es.modify j f).toList = match es.toList[j]? with
            | some e => es.toList.set j (f e)
            | none => es.toList := by
          intro es f
          rw [Array.toList_modify]
          cases h : es.toList[j]? with
          | none => rw [List.modify_eq_self (List.getElem?_eq_none_iff.1 h)]
          | some e =>
            obtain ⟨hlt, he⟩ := List.getElem?_eq_some_iff.1 h
            refine List.ext_getElem? fun i => ?_
            rw [List.getElem?_modify, List.getElem?_set]
            by_cases hij : j = i
            · subst hij; simp only [h, hlt, if_true, Option.map_some]; rfl
            · simp [hij]
        rw [upd, upd]
        cases hj : es.toList[j]? with
        | none =>
          have : es'.toList[j]? = none := by
            have := hes5.length
            rw [List.getElem?_eq_none_iff] at hj ⊢; omega
          rw [this]; exact hes5
        | some e =>
          obtain ⟨e', h1, h2⟩ := hes5.get? j hj
          rw [h1]
          exact hes5.set j ⟨hz, (hv.mono le04).mono le5, h2.born⟩
  | _ => exact SS.halt

theorem VsR.toA {F : FuncId → Prop} {a a' : Array Value} {i : Nat} (h : VsR F ρ a.toList a'.toList) : (a[i]? = none ∧ a'[i]? = none) ∨ ∃ v v', a[i]? = some v ∧ a'[i]? = some v' ∧ VR F ρ v v' := by
  cases hc : a[i]? with
  | none =>
    refine .inl ⟨rfl, ?_⟩
    have := h.size
    rw [Array.getElem?_eq_none_iff] at hc ⊢; omega
  | some v => obtain ⟨v', h1, h2⟩ := h.aget hc; exact .inr ⟨v, v', rfl, h1, h2⟩

theorem SS.delete (H : X.Ok Fb) (hns : ∀ b, ¬ X.Sh b) (ats : Array TypeId) (t xt key elem : TypeId) (h0 : ats[0]? = some xt) (hx : X.P.underlying xt = some (.map key elem)) {dep : Nat} (hk : eqTy X.P X.P' dep key = true) {ars ars' : Array Value}
    (h : VsR X.F ρ ars.toList ars'.toList) : SS X ρ (Builtin.delete_ ats t ars) (Builtin.delete_ ats t ars') (fun ρ1 v v' => VR X.F ρ1 v v') := by
  unfold Builtin.delete_
  rw [h0]
  rcases h.toA (i := 0) with ⟨a1, a2⟩ | ⟨m, m', a1, a2, hm⟩
  · rw [a1, a2]; exact SS.halt
  rcases h.toA (i := 1) with ⟨b1, b2⟩ | ⟨k, k', b1, b2, hkk⟩
  · rw [a1, a2, b1, b2]; exact SS.halt
  rw [a1, a2, b1, b2]
  simp only
  refine (SS.underlying H xt).bind fun ρ1 d d' le ⟨e, hd⟩ => ?_
  subst e
  rw [hx] at hd; cases hd
  simp only
  have fin : ∀ ρ2, SS X ρ2 (Pure.pure (Value.tuple #[])) (Pure.pure (Value.tuple #[])) (fun ρ1 v v' => VR X.F ρ1 v v') := fun _ => SS.pure (.tuple .nil)
  cases hm with
  | mapNil => exact (SS.checkKey H _ _ _ (hkk.mono le)).bind fun _ _ _ _ _ => fin _
  | map r =>
    simp only
    refine (SS.getObj (le _ _ r)).bind fun ρ2 o o' le2 ⟨ho, _⟩ => ?_
    cases ho with
    | @map es es' clock hes => ?_
    | _ => exact SS.dies (Dies.bindL (Dies.stuck _))
    simp only
    have emp : es'.isEmpty = es.isEmpty := by
      have := hes.length
      simp only [Array.length_toList] at this
      simp [Array.isEmpty, this]
    rw [emp]
    refine (SS.checkKey H _ _ _ ((hkk.mono le).mono le2)).bind fun ρ3 _ _ le3 _ => ?_
    refine (SS.findKey H hk (((hkk.mono le).mono le2).mono le3) (hes.mono le3)).bind fun ρ4 q q' le4 hq => ?_
    have le04 : ρ.le ρ4 := Rel.le_trans le (Rel.le_trans le2 (Rel.le_trans le3 le4))
    have hes4 := (hes.mono le3).mono le4
    rcases hq with ⟨rfl, rfl⟩ | ⟨j, y, y', rfl, rfl, _⟩
    · simp only
      exact (SS.setObj (le04 _ _ r) (.map hes4) (hns _)).bind fun _ _ _ _ _ => fin _
    · simp only
      refine (SS.setObj (le04 _ _ r) (.map ?_) (hns _)).bind fun _ _ _ _ _ => fin _
      have ers : ∀ es : Array MapEntry, (es.eraseIdxIfInBounds j).toList = es.toList.eraseIdx j := fun es => by
        rw [Array.eraseIdxIfInBounds_eq]
        split
        · rw [Array.toList_eraseIdx]
        · rw [List.eraseIdx_of_length_le (by simpa using Nat.le_of_not_lt ‹_›)]
      rw [ers, ers]
      exact hes4.eraseIdx j
  | _ => exact SS.dies (Dies.bindL (Dies.stuck _))

/-! ### addresses, slices -/
theorem SS.fieldAt (H : X.Ok Fb) (s : TypeId) (f : Nat) {fs : Array Field} {fd : Field} (hs : X.P.underlying s = some (.struct fs)) (hf : fs[f]? = some fd) (hz : X.P.cellsOf fd.type ≠ 0) {x x' : Value} (hx : VR X.F ρ x x') :
    SS X ρ (Instr.fieldAt s x f) (Instr.fieldAt s x' f) (fun ρ1 v v' => VR X.F ρ1 v v') := by
  unfold Instr.fieldAt
  refine (SS.underlying H s).bind fun ρ1 d d' le ⟨e, hd⟩ => ?_
  subst e
  rw [hs] at hd; cases hd
  simp only [hf]
  refine (SS.sureAddr (hx.mono le)).bind fun ρ2 a a' le2 ha => ?_
  refine SS.bind (Q := fun ρ3 a a' => AR ρ3 a a') ?_ fun ρ3 a a' _ h => SS.pure h.ptr
  unfold fieldPlace
  refine (SS.sizeOf H _).bind fun ρ3 n n' le3 ⟨e, hn⟩ => ?_
  subst e
  rw [if_neg (by rw [hn]; exact hz), if_neg (by rw [hn]; exact hz)]
  exact SS.pure ((ha.mono le3).add _)

theorem SS.indexAt (H : X.Ok Fb) (t : TypeId) {x x' i i' : Value} (hx : VR X.F ρ x x') (hi : VR X.F ρ i i') : SS X ρ (Instr.indexAt t x i) (Instr.indexAt t x' i') (fun ρ1 v v' => VR X.F ρ1 v v') := by
  unfold Instr.indexAt
  refine (SS.asIntOf hi).bind fun ρ1 p p' le e => ?_
  subst e
  obtain ⟨k, n⟩ := p
  simp only
  refine (SS.underlying H t).bind fun ρ2 d d' le2 ⟨e, hd⟩ => ?_
  subst e
  have le02 := Rel.le_trans le le2
  have tail : ∀ (ρ3 : Rel) (b b' : Option Addr) (len : Nat) (elem : TypeId), ρ2.le ρ3 → ((b = none ∧ b' = none) ∨ ∃ a a', b = some a ∧ b' = some a' ∧ AR ρ3 a a') → SS X ρ3
      (do
        let tiny := len ≤ 1 && (match ← Go.underlying t with | .array .. => true | _ => false)
        match b with
        | some a =>
          if 0 ≤ n ∧ n < len then Pure.pure (Value.pointer (some (a.add (n.toNat * (← Go.sizeOf elem)))))
          else if tiny then unsupported (.noEntry "op/indexAddr.an index out of range at an array of length 0 or 1 (ledger 616)")
          else boundsPanic k n len .index
        | none => boundsPanic k n 0 .index)
      (do
        let tiny := len ≤ 1 && (match ← Go.underlying t with | .array .. => true | _ => false)
        match b' with
        | some a =>
          if 0 ≤ n ∧ n < len then Pure.pure (Value.pointer (some (a.add (n.toNat * (← Go.sizeOf elem)))))
          else if tiny then unsupported (.noEntry "op/indexAddr.an index out of range at an array of length 0 or 1 (ledger 616)")
          else boundsPanic k n len .index
        | none => boundsPanic k n 0 .index) (fun ρ1 v v' => VR X.F ρ1 v v') := by
    intro ρ3 b b' len elem le3 hb
    refine (SS.underlying H t).bind fun ρ4 d d' le4 ⟨e, hd⟩ => ?_
    subst e
    rcases hb with ⟨rfl, rfl⟩ | ⟨a, a', rfl, rfl, ha⟩
    · exact SS.dies (Dies.boundsPanic _ _ _ _)
    · simp only
      refine SS.ite (fun _ => ?_) (fun _ => SS.ite (fun _ => SS.halt) (fun _ => SS.dies (Dies.boundsPanic _ _ _ _)))
      refine (SS.sizeOf H _).bind fun ρ5 m m' le5 ⟨e, _⟩ => ?_
      subst e
      exact SS.pure (((ha.mono le4).mono le5).add _).ptr
  cases d with
  | array len elem =>
    simp only
    refine (SS.sureAddr (hx.mono le02)).bind fun ρ3 a a' le3 ha => ?_
    exact tail ρ3 (some a) (some a') len elem le3 (.inr ⟨_, _, rfl, rfl, ha⟩)
  | slice elem =>
    cases hx with
    | sliceNil n c => exact tail ρ2 none none n elem ρ2.le_refl (.inl ⟨rfl, rfl⟩)
    | slice r => exact tail ρ2 (some _) (some _) _ elem ρ2.le_refl (.inr ⟨_, _, rfl, rfl, ⟨le02 _ _ r, rfl, rfl⟩⟩)
    | _ => exact SS.dies (Dies.bindL (Dies.stuck _))
  | _ => exact SS.dies (Dies.bindL (Dies.stuck _))

theorem SS.index (H : X.Ok Fb) (t : TypeId) {x x' i i' : Value} (hx : VR X.F ρ x x') (hi : VR X.F ρ i i') : SS X ρ (Instr.index t x i) (Instr.index t x' i') (fun ρ1 v v' => VR X.F ρ1 v v') := by
  unfold Instr.index
  refine (SS.asIntOf hi).bind fun ρ1 p p' le e => ?_
  subst e
  obtain ⟨k, n⟩ := p
  simp only
  refine (SS.underlying H t).bind fun ρ2 d d' le2 ⟨e, hd⟩ => ?_
  subst e
  cases d with
  | array len elem =>
    cases hx with
    | agg h =>
      simp only
      refine SS.ite (fun _ => ?_) (fun _ => SS.dies (Dies.boundsPanic _ _ _ _))
      refine (SS.sizeOf H _).bind fun ρ5 m m' le5 ⟨e, _⟩ => ?_
      subst e
      exact SS.part H _ _ (((h.mono le).mono le2).mono le5)
    | _ => exact SS.halt
  | string =>
    cases hx with
    | string s =>
      simp only
      split
      · exact SS.pure (.int _ _)
      · exact SS.dies (Dies.boundsPanic _ _ _ _)
    | _ => exact SS.halt
  | _ => exact SS.halt

theorem SS.field (H : X.Ok Fb) (t : TypeId) (f : Nat) {x x' : Value} (hx : VR X.F ρ x x') : SS X ρ (Instr.field t x f) (Instr.field t x' f) (fun ρ1 v v' => VR X.F ρ1 v v') := by
  unfold Instr.field
  refine (SS.underlying H t).bind fun ρ2 d d' le2 ⟨e, hd⟩ => ?_
  subst e
  cases d with
  | struct fs =>
    simp only
    cases fs[f]? with
    | none => exact SS.halt
    | some fd =>
      simp only
      refine (SS.asAgg (hx.mono le2)).bind fun ρ3 c c' _ hc => SS.part H _ _ hc
  | _ => exact SS.halt

theorem SS.sliceBound {x x' : Value} (hx : VR X.F ρ x x') (y : Nat) (c : BoundsCode) : SS X ρ (Instr.sliceBound x y c) (Instr.sliceBound x' y c) (fun _ n n' => n = n') := by
  unfold Instr.sliceBound
  refine (SS.asIntOf hx).bind fun ρ1 p p' le e => ?_
  subst e
  obtain ⟨k, n⟩ := p
  exact SS.ite (fun _ => SS.pure rfl) (fun _ => SS.dies (Dies.boundsPanic _ _ _ _))
/-- an operand that may be there. -/
def OVR (F : FuncId → Prop) (ρ : Rel) (x x' : Option Value) : Prop := (x = none ∧ x' = none) ∨ ∃ v v', x = some v ∧ x' = some v' ∧ VR F ρ v v'
theorem SS.sliceBounds {lo lo' hi hi' : Option Value} (hlo : OVR X.F ρ lo lo') (hhi : OVR X.F ρ hi hi') (b : Bool) (len cap : Nat) : SS X ρ (Instr.sliceBounds b len cap lo hi none) (Instr.sliceBounds b len cap lo' hi' none) (fun _ n n' => n = n') := by
  unfold Instr.sliceBounds
  have tail : ∀ (ρ3 : Rel) (h : Nat), ρ.le ρ3 → SS X ρ3 (do
      let l ← match lo with
        | some v => Instr.sliceBound v h (if (none : Option Value).isSome then .slice3C else .sliceB)
        | none => Pure.pure 0
      Pure.pure (l, h, cap)) (do
      let l ← match lo' with
        | some v => Instr.sliceBound v h (if (none : Option Value).isSome then .slice3C else .sliceB)
        | none => Pure.pure 0
      Pure.pure (l, h, cap)) (fun _ n n' => n = n') := by
    intro ρ3 h le
    rcases hlo with ⟨rfl, rfl⟩ | ⟨v, v', rfl, rfl, hv⟩
    · exact SS.pure rfl
    · exact (SS.sliceBound (hv.mono le) _ _).bind fun _ n n' _ e => SS.pure (by rw [e])
  rcases hhi with ⟨rfl, rfl⟩ | ⟨v, v', rfl, rfl, hv⟩
  · exact tail ρ len ρ.le_refl
  · simp only
    refine SS.bind (Q := fun _ n n' => n = cap ∧ n' = cap) (SS.pure ⟨rfl, rfl⟩) fun ρ2 m m' le2 ⟨e1, e2⟩ => ?_
    rw [e1, e2]
    refine SS.bind (Q := fun _ n n' => n = n') (SS.sliceBound (hv.mono le2) _ _) fun ρ3 n n' le e => ?_
    subst e
    exact tail ρ3 n (Rel.le_trans le2 le)
theorem SS.sliceAt (H : X.Ok Fb) (t : TypeId) {x x' : Value} (hx : VR X.F ρ x x') {lo lo' hi hi' : Option Value} (hlo : OVR X.F ρ lo lo') (hhi : OVR X.F ρ hi hi') : SS X ρ (Instr.sliceAt t x lo hi none) (Instr.sliceAt t x' lo' hi' none) (fun ρ1 v v' => VR X.F ρ1 v v') := by
  have om : ∀ {ρ1 ρ2 : Rel} {a a' : Option Value}, ρ1.le ρ2 → OVR X.F ρ1 a a' → OVR X.F ρ2 a a' := fun le h => h.imp id fun ⟨v, v', h1, h2, h3⟩ => ⟨v, v', h1, h2, h3.mono le⟩
  unfold Instr.sliceAt
  refine (SS.underlying H t).bind fun ρ1 d d' le ⟨e, hd⟩ => ?_
  subst e
  have plain : SS X ρ1 (Instr.slice t x lo hi none) (Instr.slice t x' lo' hi' none) (fun ρ1 v v' => VR X.F ρ1 v v') := by
    unfold Instr.slice
    refine (SS.underlying H t).bind fun ρ2 d d' le2 ⟨e, hd⟩ => ?_
    subst e
    have le02 := Rel.le_trans le le2
    cases d with
    | string =>
      cases hx with
      | string s =>
        simp only [Option.isSome_none, Bool.false_eq_true, if_false]
        refine (SS.sliceBounds (om le02 hlo) (om le02 hhi) _ _ _).bind fun ρ3 p p' _ e => ?_
        subst e
        exact SS.pure (.string _)
      | _ => exact SS.halt
    | slice elem =>
      cases hx with
      | sliceNil n c =>
        simp only
        refine (SS.sliceBounds (om le02 hlo) (om le02 hhi) _ _ _).bind fun ρ3 p p' _ e => ?_
        subst e
        obtain ⟨l, h, m⟩ := p
        simp only
        refine (SS.sizeOf H _).bind fun ρ5 q q' le5 ⟨e, _⟩ => ?_
        subst e
        refine SS.pure ?_
        split
        · exact .sliceNil _ _
        · exact .sliceNil _ _
      | @slice b b' o s n c r =>
        simp only
        refine (SS.sliceBounds (om le02 hlo) (om le02 hhi) _ _ _).bind fun ρ3 p p' le3 e => ?_
        subst e
        obtain ⟨l, h, m⟩ := p
        simp only
        refine (SS.sizeOf H _).bind fun ρ5 q q' le5 ⟨e, _⟩ => ?_
        subst e
        refine SS.pure ?_
        have ar : AR ρ5 ⟨b, o, s⟩ ⟨b', o, s⟩ := ⟨le5 _ _ (le3 _ _ (le02 _ _ r)), rfl, rfl⟩
        split
        · exact ar.slice _ _
        · exact (ar.add _).slice _ _
      | _ => exact SS.halt
    | pointer arr =>
      simp only
      refine (SS.asAddr (hx.mono le02)).bind fun ρ3 a a' le3 ha => ?_
      refine (SS.underlying H arr).bind fun ρ4 d d' le4 ⟨e, hd⟩ => ?_
      subst e
      have le04 := Rel.le_trans le02 (Rel.le_trans le3 le4)
      cases d with
      | array n elem =>
        simp only
        refine (SS.sliceBounds (om le04 hlo) (om le04 hhi) _ _ _).bind fun ρ5 p p' le5 e => ?_
        subst e
        obtain ⟨l, h, m⟩ := p
        simp only
        refine (SS.sizeOf H _).bind fun ρ6 q q' le6 ⟨e, _⟩ => ?_
        subst e
        refine SS.pure ?_
        have ar := ha.mono (Rel.le_trans le4 (Rel.le_trans le5 le6))
        split
        · exact ar.slice _ _
        · exact (ar.add _).slice _ _
      | _ => exact SS.halt
    | _ => exact SS.halt
  cases d with
  | array n elem =>
    simp only
    refine (SS.sureAddr (hx.mono le)).bind fun ρ3 a a' le3 ha => ?_
    have le03 := Rel.le_trans le le3
    refine (SS.sliceBounds (om le03 hlo) (om le03 hhi) _ _ _).bind fun ρ5 p p' le5 e => ?_
    subst e
    obtain ⟨l, h, m⟩ := p
    simp only
    refine (SS.sizeOf H _).bind fun ρ6 q q' le6 ⟨e, _⟩ => ?_
    subst e
    refine SS.pure ?_
    have ar := ha.mono (Rel.le_trans le5 le6)
    split
    · exact ar.slice _ _
    · exact (ar.add _).slice _ _
  | _ => exact plain

/-! ### aggregates, boxes -/
theorem SS.alloc (H : X.Ok Fb) (t : TypeId) (hz : zeroOk X.P Fb t = true) : SS X ρ (Instr.alloc t true (.tuple #[])) (Instr.alloc t true (.tuple #[])) (fun ρ1 v v' => VR X.F ρ1 v v') := by
  unfold Instr.alloc
  refine (SS.zeroValue H t hz).bind fun ρ1 z z' _ h => ?_
  exact (SS.newVar t h).bind fun _ a a' _ ha => SS.pure ha.ptr
theorem SS.box (t : TypeId) {v v' : Value} (h : VR X.F ρ v v') : SS X ρ (Instr.box t v) (Instr.box t v') (fun ρ1 v v' => VR X.F ρ1 v v') := by
  unfold Instr.box
  exact (SS.newVar t h).bind fun _ a a' _ ha => SS.pure ha.ptr
inductive PsR (F : FuncId → Prop) (ρ : Rel) : List (Nat × Value) → List (Nat × Value) → Prop
  | nil : PsR F ρ [] []
  | cons {i : Nat} {v v' : Value} {l l' : List (Nat × Value)} : VR F ρ v v' → PsR F ρ l l' → PsR F ρ ((i, v) :: l) ((i, v') :: l')
theorem PsR.mono {F : FuncId → Prop} {ρ' : Rel} (le : ρ.le ρ') : ∀ {l l' : List (Nat × Value)}, PsR F ρ l l' → PsR F ρ' l l'
  | _, _, .nil => .nil
  | _, _, .cons a b => .cons (a.mono le) (b.mono le)
theorem foldl_set_R {F : FuncId → Prop} (off : Nat) : ∀ (c c' : List Value) (j : Nat) (cs cs' : Array Value), VsR F ρ c c' → VsR F ρ cs.toList cs'.toList →
    VsR F ρ ((c.zipIdx j).foldl (fun cs (p : Value × Nat) => cs.setIfInBounds (off + p.2) p.1) cs).toList ((c'.zipIdx j).foldl (fun cs (p : Value × Nat) => cs.setIfInBounds (off + p.2) p.1) cs').toList
  | [], _, j, cs, cs', .nil, h => h
  | v :: c, _, j, cs, cs', .cons a b, h => by
    rw [List.zipIdx_cons, List.zipIdx_cons, List.foldl_cons, List.foldl_cons]
    exact foldl_set_R off _ _ (j + 1) _ _ b (h.aset _ a)
theorem fill_R {F : FuncId → Prop} (place : Nat → Option (Nat × Nat)) : ∀ {l l' : List (Nat × Value)} {c c' : Array Value}, PsR F ρ l l' → VsR F ρ c.toList c'.toList →
    (Instr.fill place c l = none ∧ Instr.fill place c' l' = none) ∨ ∃ d d', Instr.fill place c l = some d ∧ Instr.fill place c' l' = some d' ∧ VsR F ρ d.toList d'.toList
  | _, _, c, c', .nil, h => .inr ⟨c, c', rfl, rfl, h⟩
  | _, _, c, c', .cons (i := i) (v := v) (v' := v') a b, h => by
    unfold Instr.fill
    cases place i with
    | none => exact .inl ⟨rfl, rfl⟩
    | some p =>
      obtain ⟨off, size⟩ := p
      simp only
      rw [show v'.cells.size = v.cells.size from a.cells.size.symm, show c'.size = c.size from h.size.symm]
      split
      · exact .inl ⟨rfl, rfl⟩
      · refine fill_R place b ?_
        rw [← Array.foldl_toList, ← Array.foldl_toList, Array.toList_zipIdx, Array.toList_zipIdx]
        exact foldl_set_R off _ _ 0 _ _ a.cells h
theorem SS.mapMSize (H : X.Ok Fb) (fs : List Field) : ∀ {ρ : Rel}, SS X ρ (fs.mapM fun f => do Pure.pure (f.offset, ← Go.sizeOf f.type)) (fs.mapM fun f => do Pure.pure (f.offset, ← Go.sizeOf f.type)) (fun _ l l' => l = l') := by
  induction fs with
  | nil => intro ρ; exact SS.pure rfl
  | cons f fs ih =>
    intro ρ
    rw [List.mapM_cons]
    refine SS.bind (Q := fun _ p p' => p = p') ((SS.sizeOf H _).bind fun _ n n' _ ⟨e, _⟩ => SS.pure (by rw [e])) fun ρ1 p p' _ e => ?_
    subst e
    exact ih.bind fun _ l l' _ e => SS.pure (by rw [e])
theorem SS.build (H : X.Ok Fb) (t : TypeId) (hz : zeroOk X.P Fb t = true) {ps ps' : Array (Nat × Value)} (h : PsR X.F ρ ps.toList ps'.toList) : SS X ρ (Instr.build t ps) (Instr.build t ps') (fun ρ1 v v' => VR X.F ρ1 v v') := by
  unfold Instr.build
  refine (SS.zeroValue H t hz).bind fun ρ1 z z' le hzz => ?_
  refine (SS.underlying H t).bind fun ρ2 d d' le2 ⟨e, _⟩ => ?_
  subst e
  cases d with
  | struct fs =>
    simp only
    rw [← Array.toArray_toList (xs := fs)]
    simp only [List.mapM_toArray]
    refine SS.bind (Q := fun _ p p' => p = p') ((SS.mapMSize H fs.toList).bind fun _ l l' _ e => SS.pure (by rw [e])) fun ρ3 p p' le3 e => ?_
    subst e
    rcases fill_R (F := X.F) (ρ := ρ3) (p[·]?) (h.mono (Rel.le_trans le (Rel.le_trans le2 le3))) (hzz.cells.mono (Rel.le_trans le2 le3)) with ⟨h1, h2⟩ | ⟨c, c', h1, h2, h3⟩
    · rw [h1, h2]; exact SS.halt
    · rw [h1, h2]; exact SS.pure (.agg h3)
  | array n elem =>
    simp only
    refine (SS.sizeOf H _).bind fun ρ3 q q' le3 ⟨e, _⟩ => ?_
    subst e
    rcases fill_R (F := X.F) (ρ := ρ3) (fun i => some (i * q, q)) (h.mono (Rel.le_trans le (Rel.le_trans le2 le3))) (hzz.cells.mono (Rel.le_trans le2 le3)) with ⟨h1, h2⟩ | ⟨c, c', h1, h2, h3⟩
    · rw [h1, h2]; exact SS.halt
    · rw [h1, h2]; exact SS.pure (.agg h3)
  | _ => exact SS.halt
end

end Go.Proofs.YtkpekiajdlolnabGreat.Sim

/-
  THE SIMULATION, sixth text: operators, conversions, append, the builtins.
-/
namespace Go.Proofs.YtkpekiajdlolnabGreat.Sim
open Go

section
variable {X : Cx} {Fb : FuncId → Bool} {ρ : Rel} {α β : Type}

theorem SS.noView {a a' : Addr} (h : AR ρ a a') : SS X ρ (noView a) (noView a') (fun _ _ _ => True) := by
  unfold Go.noView
  refine (SS.viewAt h.block).bind fun ρ1 q q' le ⟨e, e'⟩ => ?_
  subst e; subst e'
  exact SS.pure trivial
theorem cells_eq (H : X.Ok Fb) (e : TypeId) : X.P'.cellsOf e = X.P.cellsOf e := by unfold Program.cellsOf; rw [H.tables]
theorem bytes_eq (H : X.Ok Fb) (e : TypeId) : X.P'.bytesOf e = X.P.bytesOf e := by unfold Program.bytesOf; rw [H.tables]
theorem depth_eq (H : X.Ok Fb) : X.P'.depth = X.P.depth := by unfold Program.depth; rw [H.tables]
theorem cab_eq (H : X.Ok Fb) (d : Nat) (e : TypeId) (c o : Nat) (n : Int) : cellAtBytes X.P' d e c o n = cellAtBytes X.P d e c o n := by
  unfold cellAtBytes
  simp only [cells_eq H, bytes_eq H, H.boc, H.cob]
theorem SS.byteOf (H : X.Ok Fb) {a a' : Addr} (h : AR ρ a a') : SS X ρ (byteOf a) (byteOf a') (fun _ n n' => n = n') := by
  obtain ⟨b, o, s⟩ := a
  obtain ⟨b', o', s'⟩ := a'
  obtain ⟨hb, h2, h3⟩ := h
  simp only at hb h2 h3
  subst h2; subst h3
  unfold Go.byteOf
  cases s with
  | some s => exact SS.pure rfl
  | none =>
    simp only
    refine SS.program ?_
    refine (SS.noView (AR.of (o := o) (s := none) hb)).bind fun ρ1 _ _ le _ => ?_
    refine (SS.shape (le _ _ hb)).bind fun ρ2 q q' le2 e => ?_
    subst e
    cases q with
    | none => exact SS.halt
    | some p =>
      obtain ⟨e, n⟩ := p
      simp only
      rw [cells_eq H, bytes_eq H, depth_eq H, H.boc]
      refine SS.ite (fun _ => SS.pure rfl) (fun _ => ?_)
      cases byteOfCell X.P X.P.depth e (o % X.P.cellsOf e) with
      | none => exact SS.halt
      | some b => exact SS.pure rfl
theorem unsafeAdd_eq (t : TypeId) (ptr : Option Addr) (len : Value) : Builtin.unsafeAdd_ #[] t #[.pointer ptr, len] = (do
    let n ← asInt len
    if n = 0 then
      let some a := ptr | unsupported (.unsafePointer "Add: from nil")
      if (← viewAt a.block).isSome then unsupported (.unsafePointer "Add: at a place where no cell lies")
      return .pointer ptr
    if n < 0 then unsupported (.unsafePointer "Add: a move by a count below zero")
    let some a := ptr | unsupported (.unsafePointer "Add")
    let some (e, cells) ← shape a.block | unsupported (.unsafePointer "Add")
    let p ← program
    match cellAtBytes p p.depth e (cells / p.cellsOf e) a.off n with
    | some off => pure (.pointer (some { a with off }))
    | none => unsupported (.unsafePointer "Add")) := rfl
theorem SS.unsafeAdd (H : X.Ok Fb) (t : TypeId) {a a' : Addr} (h : AR ρ a a') {n n' : Value} (hn : VR X.F ρ n n') :
    SS X ρ (Builtin.unsafeAdd_ #[] t #[.pointer (some a), n]) (Builtin.unsafeAdd_ #[] t #[.pointer (some a'), n']) (fun ρ1 v v' => VR X.F ρ1 v v') := by
  rw [unsafeAdd_eq, unsafeAdd_eq]
  refine (SS.asInt hn).bind fun ρ1 m m' le e => ?_
  subst e
  refine SS.ite (fun _ => ?_) (fun _ => ?_)
  · refine (SS.viewAt (le _ _ h.block)).bind fun ρ2 q q' le2 ⟨e, e'⟩ => ?_
    subst e; subst e'
    exact SS.pure ((h.mono le).mono le2).ptr
  · refine SS.ite (fun _ => SS.dies (Dies.bindL (Dies.unsupported _))) (fun _ => ?_)
    refine (SS.shape (le _ _ h.block)).bind fun ρ2 q q' le2 e => ?_
    subst e
    cases q with
    | none => exact SS.halt
    | some p =>
      obtain ⟨e, c⟩ := p
      simp only
      refine SS.program ?_
      rw [cells_eq H, depth_eq H, cab_eq H, ← h.off]
      cases cellAtBytes X.P X.P.depth e (c / X.P.cellsOf e) a.off m with
      | none => exact SS.halt
      | some off => exact SS.pure (AR.ptr ⟨(Rel.le_trans le le2) _ _ h.block, rfl, h.spot⟩)
theorem SS.asNumber {a a' : Addr} (h : AR ρ a a') (l : Bool) : SS X ρ (asNumber a l) (asNumber a' l) (fun ρ1 v v' => VR X.F ρ1 v v') := by
  obtain ⟨b, o, s⟩ := a
  obtain ⟨b', o', s'⟩ := a'
  obtain ⟨hb, h2, h3⟩ := h
  simp only at hb h2 h3
  subst h2; subst h3
  unfold Go.asNumber
  exact (SS.newObj fun r r' => .number l (.inl hb)).bind fun _ r r' _ hr => SS.pure (.ptr hr)
theorem SS.movedNumber (H : X.Ok Fb) (t : TypeId) {x x' y y' : Value} (hx : VR X.F ρ x x') (hy : VR X.F ρ y y') : SS X ρ (movedNumber t x y) (movedNumber t x' y') (fun ρ1 v v' => VR X.F ρ1 v v') := by
  unfold Go.movedNumber
  refine (SS.underlying H t).bind fun ρ1 d d' le ⟨e, hd⟩ => ?_
  subst e
  have hx1 := hx.mono le
  have hy1 := hy.mono le
  have tail : SS X ρ1 (do
      let .pointer (some n) := x | Builtin.unsafeAdd_ #[] t #[x, y]
      let (a, lost) ← Go.behindNumber n
      match ← Builtin.unsafeAdd_ #[] t #[.pointer (some a), y] with
      | .pointer (some b) => Go.asNumber b lost
      | v => Pure.pure v) (do
      let .pointer (some n) := x' | Builtin.unsafeAdd_ #[] t #[x', y']
      let (a, lost) ← Go.behindNumber n
      match ← Builtin.unsafeAdd_ #[] t #[.pointer (some a), y'] with
      | .pointer (some b) => Go.asNumber b lost
      | v => Pure.pure v) (fun ρ1 v v' => VR X.F ρ1 v v') := by
    cases hx1 with
    | @ptr b b' o s r =>
      simp only
      refine (SS.behindNumber (AR.of r)).bind fun ρ2 p p' le2 ⟨h1, h2⟩ => ?_
      obtain ⟨a, l⟩ := p
      obtain ⟨a', l'⟩ := p'
      simp only at h1 h2
      subst h2
      simp only
      refine (SS.unsafeAdd H t h1 (hy1.mono le2)).bind fun ρ3 v v' le3 hv => ?_
      cases hv <;> first | exact SS.asNumber (AR.of ‹_›) _ | exact SS.pure (by first | exact .bool _ | exact .int _ _ | exact .string _ | exact .ptrNil | exact .sliceNil _ _ | exact .slice ‹_› | exact .mapNil | exact .map ‹_› | exact .func ‹_› ‹_› | exact .yield ‹_› | exact .nilFunc | exact .agg ‹_› | exact .tuple ‹_›)
    | ptrNil =>
      simp only
      rw [unsafeAdd_eq, unsafeAdd_eq]
      refine (SS.asInt hy1).bind fun ρ2 m m' le2 e => ?_
      subst e
      refine SS.ite (fun _ => SS.halt) (fun _ => SS.ite (fun _ => SS.dies (Dies.bindL (Dies.unsupported _))) (fun _ => SS.halt))
    | _ => exact SS.halt
  cases d <;> first | exact tail | exact SS.dies (Dies.bindL (Dies.unsupported _))
theorem Dies.twoPlaces (H : X.Ok Fb) (a b : Addr) {s' : Sem β} {γ : Type} {f : Nat × Nat → Sem γ} {Q : Rel → γ → β → Prop} : SS X ρ (Op.twoPlaces a b >>= f) s' Q := by
  have key0 : ∀ w, (Op.twoPlaces a b).run X.P w = .halt (.unsupported .addressObserved) w := by
    intro w
    unfold Op.twoPlaces
    have hp : ∀ w3, (Go.program).run X.P w3 = .ok X.P w3 := fun _ => rfl
    rw [Sem.run_bind, hp]
    simp only [Result.andThen_ok, H.globals, Nat.zero_le, ge_iff_le, decide_true, Bool.or_true, if_true]
    rfl
  have key : ∀ w, (Op.twoPlaces a b >>= f).run X.P w = .halt (.unsupported .addressObserved) w := by
    intro w
    rw [Sem.run_bind, key0]
    rfl
  refine ⟨fun w w' v w1 es hw hr => (by rw [key] at hr; cases hr), fun w w' x w1 hw hr => (by rw [key] at hr; cases hr; exact ⟨trivial, KC.refl _⟩), fun w w' _ => ?_⟩
  refine NoOut.bind (.quiet fun es => ?_) fun a0 w1 e0 => ?_
  · unfold Op.twoPlaces
    rw [show ∀ g : Program → Sem (Nat × Nat), ((Go.program >>= g).runT X.P w es) = (g X.P).runT X.P w es from fun _ => rfl]
    simp only [H.globals, Nat.zero_le, ge_iff_le, decide_true, Bool.or_true, if_true]
    rfl
  · rw [key0] at e0; cases e0
theorem SS.addrMod (H : X.Ok Fb) (k : IntKind) {a a' : Addr} (h : AR ρ a a') (n : Int) : SS X ρ (Op.addrMod k a n) (Op.addrMod k a' n) (fun ρ1 v v' => VR X.F ρ1 v v') := by
  unfold Op.addrMod
  refine (SS.shape h.block).bind fun ρ1 q q' le e => ?_
  subst e
  cases q with
  | none => exact SS.halt
  | some p =>
    obtain ⟨e, c⟩ := p
    simp only
    refine (SS.typeInfo H e).bind fun ρ2 i i' le2 ⟨e, _⟩ => ?_
    subst e
    refine SS.ite (fun _ => SS.dies (Dies.bindL (Dies.unsupported _))) (fun _ => ?_)
    refine (SS.byteOf H ((h.mono le).mono le2)).bind fun ρ3 m m' _ e => ?_
    subst e
    exact SS.pure (.int _ _)

/-! ### operators -/
theorem SS.intArith (op : BinOp) (k : IntKind) (x y : Int) : SS X ρ (Op.intArith op k x y) (Op.intArith op k x y) (fun ρ1 v v' => VR X.F ρ1 v v') := by
  cases op <;> first | exact SS.pure (.int _ _) | exact SS.halt
theorem SS.intBits (op : BinOp) (k : IntKind) (x y : Int) : SS X ρ (Op.intBits op k x y) (Op.intBits op k x y) (fun ρ1 v v' => VR X.F ρ1 v v') := by
  cases op <;> first | exact SS.pure (.int _ _) | exact SS.halt
theorem SS.intCmp (op : BinOp) (x y : Int) : SS X ρ (Op.intCmp op x y) (Op.intCmp op x y) (fun ρ1 v v' => VR X.F ρ1 v v') := by
  cases op <;> first | exact SS.pure (.bool _) | exact SS.halt
theorem SS.intDiv (op : BinOp) (k : IntKind) (x y : Int) : SS X ρ (Op.intDiv op k x y) (Op.intDiv op k x y) (fun ρ1 v v' => VR X.F ρ1 v v') := by
  unfold Op.intDiv
  refine SS.ite (fun _ => SS.dies (Dies.runtimePanic _)) (fun _ => ?_)
  cases op <;> first | exact SS.pure (.int _ _) | exact SS.halt
theorem SS.shift (op : BinOp) (k yk : IntKind) (x y : Int) : SS X ρ (Op.shift op k x yk y) (Op.shift op k x yk y) (fun ρ1 v v' => VR X.F ρ1 v v') := by
  unfold Op.shift
  refine SS.ite (fun _ => SS.dies (Dies.runtimePanic _)) (fun _ => ?_)
  cases op <;> first | exact SS.pure (.int _ _) | exact SS.halt
theorem SS.stringOp (op : BinOp) (x y : ByteArray) : SS X ρ (Op.stringOp op x y) (Op.stringOp op x y) (fun ρ1 v v' => VR X.F ρ1 v v') := by
  cases op <;> first | exact SS.pure (.bool _) | exact SS.halt | exact SS.ite (fun _ => SS.halt) (fun _ => SS.pure (.string _))
theorem SS.unary (op : UnOp) {x x' : Value} (h : VR X.F ρ x x') : SS X ρ (Op.unary op x) (Op.unary op x') (fun ρ1 v v' => VR X.F ρ1 v v') := by
  unfold Op.unary
  cases op <;> cases h <;> first | exact SS.halt | exact SS.intArith _ _ _ _ | exact SS.intBits _ _ _ _ | exact SS.pure (.bool _)

/-- What an equality may be asked of: a type that is compared without memory; or one side is the literal nil pointer. -/
def eqOk (P P' : Program) (t : TypeId) (x y : Operand) : Bool :=
  (eqTy P P' 8 t && !(P.eqGuardType P.depth t) && !(P'.eqGuardType P'.depth t)) ||
    (match P.underlying t with | some (.pointer _) => true | _ => false) && (match x, y with | .const (.pointer none), _ => true | _, .const (.pointer none) => true | _, _ => false)
theorem SS.equal (H : X.Ok Fb) (t : TypeId) (x y : Operand) (h : eqOk X.P X.P' t x y = true) (e e' : Operand → Value) (hx : VR X.F ρ (e x) (e' x)) (hy : VR X.F ρ (e y) (e' y)) (hc : ∀ v, e (.const v) = v) :
    SS X ρ (Op.equal t (e x) (e y)) (Op.equal t (e' x) (e' y)) (fun _ b b' => b = b') := by
  unfold eqOk at h
  rw [Bool.or_eq_true] at h
  unfold Op.equal
  rcases h with h | h
  · simp only [Bool.and_eq_true] at h
    exact SS.equalIn H 8 t h.1.1 _ hx hy
  · simp only [Bool.and_eq_true] at h
    obtain ⟨h1, h2⟩ := h
    have key : (e x = .pointer none) ∨ (e y = .pointer none) := by
      split at h2
      · exact .inl (hc _)
      · exact .inr (hc _)
      · cases h2
    unfold Op.maxDepth Op.equalIn
    refine (SS.underlying H t).bind fun ρ1 d d' le ⟨ed, hd⟩ => ?_
    subst ed
    rw [hd] at h1
    cases d with
    | pointer el =>
      generalize e x = vx at hx key
      generalize e y = vy at hy key
      generalize e' x = vx' at hx
      generalize e' y = vy' at hy
      rcases key with rfl | rfl
      · cases hx
        cases hy <;> first | exact SS.pure rfl | exact SS.halt
      · cases hy
        cases hx <;> first | exact SS.pure rfl | exact SS.halt
    | _ => cases h1

def isEq (op : BinOp) : Bool := match op with | .eql | .neq => true | _ => false
theorem SS.movedPtr (H : X.Ok Fb) (t : TypeId) {b b' o : Nat} {s : Option Nat} (r : ρ b b') (k : IntKind) (n : Int) :
    SS X ρ (movedPointer t (.pointer (some ⟨b, o, s⟩)) (.int k n)) (movedPointer t (.pointer (some ⟨b', o, s⟩)) (.int k n)) (fun ρ1 v v' => VR X.F ρ1 v v') := by
  unfold movedPointer
  simp only
  refine (SS.numberAt r).bind fun ρ2 q q' le2 hq => ?_
  rcases hq with ⟨rfl, rfl⟩ | ⟨_, _, _, _, rfl, rfl, _⟩
  · simp only [Option.isSome_none, Bool.false_eq_true, if_false]
    exact SS.unsafeAdd H t (AR.of (le2 _ _ r)) (.int _ _)
  · exact SS.dies (Dies.bindL (Dies.unsupported _))
theorem SS.movedPtrNil (t : TypeId) (k : IntKind) (n : Int) :
    SS X ρ (movedPointer t (.pointer none) (.int k n)) (movedPointer t (.pointer none) (.int k n)) (fun ρ1 v v' => VR X.F ρ1 v v') := by
  show SS X ρ (Builtin.unsafeAdd_ #[] t #[.pointer none, .int k n]) (Builtin.unsafeAdd_ #[] t #[.pointer none, .int k n]) _
  rw [unsafeAdd_eq]
  refine (SS.asInt (.int k n)).bind fun ρ2 m m' le2 e => ?_
  subst e
  refine SS.ite (fun _ => SS.halt) (fun _ => SS.ite (fun _ => SS.dies (Dies.bindL (Dies.unsupported _))) (fun _ => SS.halt))
/-- whatever is neither a number, nor a string, nor a pointer: only == and != may be asked of it. -/
theorem binOp_other (op : BinOp) (h : isEq op = false) (t : TypeId) (x y : Value) (hx : match x with | .int .. | .float .. | .complex .. | .string .. | .pointer _ => False | _ => True) : Dies (Go.binOp op t x y) := by
  cases op <;> first | (exact Bool.noConfusion h) | (clear h; cases x <;> first | exact hx.elim | (cases y <;> exact Dies.halt _ trivial))
set_option maxHeartbeats 2000000 in
theorem SS.binV (H : X.Ok Fb) (op : BinOp) (t : TypeId) {vx vx' vy vy' : Value} (hx : VR X.F ρ vx vx') (hy : VR X.F ρ vy vy') (heq : isEq op = true → SS X ρ (Op.equal t vx vy) (Op.equal t vx' vy') (fun _ b b' => b = b')) :
    SS X ρ (Go.binOp op t vx vy) (Go.binOp op t vx' vy') (fun ρ1 v v' => VR X.F ρ1 v v') := by
  have heql : op = .eql → SS X ρ (do Pure.pure (.bool (← Op.equal t vx vy))) (do Pure.pure (.bool (← Op.equal t vx' vy'))) (fun ρ1 v v' => VR X.F ρ1 v v') := fun ho => (heq (by rw [ho]; rfl)).bind fun _ b b' _ eb => SS.pure (by rw [eb]; exact .bool _)
  have hneq : op = .neq → SS X ρ (do Pure.pure (.bool (!(← Op.equal t vx vy)))) (do Pure.pure (.bool (!(← Op.equal t vx' vy')))) (fun ρ1 v v' => VR X.F ρ1 v v') := fun ho => (heq (by rw [ho]; rfl)).bind fun _ b b' _ eb => SS.pure (by rw [eb]; exact .bool _)
  clear heq
  cases hx with
  | int k a =>
    cases hy with
    | int k' b =>
      clear heql hneq
      unfold Go.binOp
      cases op <;> simp only <;> first
        | exact SS.shift _ _ _ _ _
        | exact SS.ite (fun _ => SS.halt) (fun _ => SS.intArith _ _ _ _)
        | exact SS.ite (fun _ => SS.halt) (fun _ => SS.intDiv _ _ _ _)
        | exact SS.ite (fun _ => SS.halt) (fun _ => SS.intBits _ _ _ _)
        | exact SS.ite (fun _ => SS.halt) (fun _ => SS.intCmp _ _ _)
    | ptrNil =>
      cases op <;> first | exact SS.halt | exact heql rfl | exact hneq rfl | exact SS.movedNumber H t .ptrNil (.int _ _)
    | ptr r =>
      cases op <;> first | exact SS.halt | exact heql rfl | exact hneq rfl | exact SS.movedNumber H t (.ptr r) (.int _ _) | exact (SS.behindNumber (AR.of r)).bind fun ρ2 p p' le2 ⟨h1, h2⟩ => SS.addrMod H _ h1 _
    | _ => cases op <;> first | exact SS.halt | exact heql rfl | exact hneq rfl
  | string a =>
    cases hy with
    | string b => clear heql hneq; unfold Go.binOp; cases op <;> simp only <;> exact SS.stringOp _ _ _
    | _ => cases op <;> first | exact SS.halt | exact heql rfl | exact hneq rfl
  | ptrNil =>
    cases hy with
    | int k b =>
      cases op <;> first | exact SS.halt | exact heql rfl | exact hneq rfl | exact SS.movedNumber H t .ptrNil (.int _ _) | skip
      refine (SS.underlying H t).bind fun ρ1 d d' le ⟨ed, _⟩ => ?_
      subst ed
      cases d <;> simp only [Bool.false_eq_true, if_false, if_true] <;> first | exact SS.movedPtrNil t _ _ | exact SS.movedNumber H t .ptrNil (.int _ _)
    | _ => cases op <;> first | exact SS.halt | exact heql rfl | exact hneq rfl
  | @ptr b b' o s r =>
    cases hy with
    | int k n =>
      cases op <;> first | exact SS.halt | exact heql rfl | exact hneq rfl | exact SS.movedNumber H t (.ptr r) (.int _ _) | exact (SS.behindNumber (AR.of r)).bind fun ρ2 p p' le2 ⟨h1, h2⟩ => SS.addrMod H _ h1 _ | skip
      refine (SS.underlying H t).bind fun ρ1 d d' le ⟨ed, _⟩ => ?_
      subst ed
      cases d <;> simp only [Bool.false_eq_true, if_false, if_true] <;> first | exact SS.movedPtr H t (le _ _ r) _ _ | exact SS.movedNumber H t (.ptr (le _ _ r)) (.int _ _)
    | @ptr c c' o2 s2 r2 =>
      cases op <;> first | exact SS.halt | exact heql rfl | exact hneq rfl | skip
      all_goals
        refine (SS.behindNumber (AR.of r)).bind fun ρ2 p p' le2 ⟨h1, h2⟩ => ?_
        refine (SS.behindNumber (AR.of (le2 _ _ r2))).bind fun ρ3 q q' le3 ⟨h3, h4⟩ => ?_
        first | (unfold Op.addrSub; exact Dies.twoPlaces H _ _) | (unfold Op.addrCmp; exact Dies.twoPlaces H _ _)
    | _ => cases op <;> first | exact SS.halt | exact heql rfl | exact hneq rfl
  | _ =>
    cases ho : isEq op with
    | false => exact SS.dies (binOp_other op ho t _ _ trivial)
    | true =>
      cases op <;> first | (exact Bool.noConfusion ho) | exact heql rfl | exact hneq rfl
theorem SS.binOp (H : X.Ok Fb) (op : BinOp) (t : TypeId) (x y : Operand) (h : isEq op = true → eqOk X.P X.P' t x y = true) (e e' : Operand → Value) (hx : VR X.F ρ (e x) (e' x)) (hy : VR X.F ρ (e y) (e' y)) (hc : ∀ v, e (.const v) = v) :
    SS X ρ (Go.binOp op t (e x) (e y)) (Go.binOp op t (e' x) (e' y)) (fun ρ1 v v' => VR X.F ρ1 v v') :=
  SS.binV H op t hx hy fun ho => SS.equal H t x y (h ho) e e' hx hy hc
end

end Go.Proofs.YtkpekiajdlolnabGreat.Sim
