/-
  PROVED IN PARTS: text 4 of 11 of the carrying ground of the claim (see each part's own remark). Conditions: those that each theorem names.
-/
import Derived.Test.YtkpekiajdlolnaaGreatM03
import Derived.Conc.CrowdStepC2

/-
  THE PHASE, sixth text: WHAT HOLDS OF THE MACHINE AND THE TRACE AT EVERY MOMENT, whoever stands where.
-/
namespace Go.Proofs.YtkpekiajdlolnaaGreat.Ph
open Go Go.Conc Go.ConcN Go.Proofs.YtkpekiajdlolnaaGreat.Sim
open Go.ConcR (KK WgAt stA smA rd wr mk Payload DC0 g_of_ofEvents)
variable [Payload]

section
variable (o Wg C : Nat) (SB : Blocks)
def ShP : Loc → Prop := ShB fun b => SB b ∨ b = Wg
def OwnD (j : Nat) (D : Nat → WX) (k : Nat) (l : Loc) : Prop := ∃ i, i < j ∧ k = o + i ∧ (locIn (D i).O l ∨ l = .cell ⟨C, i, none⟩)
def RdD (j : Nat) (D : Nat → WX) (k : Nat) (l : Loc) : Prop := ∃ i, i < j ∧ k = o + i ∧ locIn (fun b => (D i).F b ∧ ¬ (D i).O b) l
structure Sep (j : Nat) (D : Nat → WX) (FM OM : Blocks) (w : World) : Prop where
  wF : ∀ i, i < j → ∀ b, (D i).F b → b < w.heap.size ∧ b ≠ Wg ∧ b ≠ C ∧ ¬ SB b
  wO : ∀ i, i < j → ∀ b, (D i).O b → (D i).F b
  apart : ∀ i i', i < j → i' < j → i ≠ i' → ∀ b, (D i).O b → ¬ (D i').F b
  mF : ∀ b, FM b → b < w.heap.size ∧ b ≠ Wg ∧ b ≠ C ∧ ¬ SB b ∧ ∀ i, i < j → ¬ (D i).O b
  mO : ∀ b, OM b → FM b ∧ ∀ i, i < j → ¬ (D i).F b
  lW : Wg < w.heap.size
  lC : C < w.heap.size
  lS : ∀ b, SB b → b < w.heap.size
  hCW : C ≠ Wg
  sW : ¬ SB Wg
  sC : ¬ SB C
end

/-- from the phase's first operation on nobody says 'release'. -/
def NoRel (o : Nat) (a : Addr) (t : Trace) : Prop := ∃ p, p ≤ t.size ∧ (∀ i g, i < p → t.g? i = some g → g < o) ∧ ∀ i, p ≤ i → t.act? i ≠ some (.mark (.release a))
omit [Payload] in
theorem NoRel.app {o : Nat} {a : Addr} {t u : Trace} (h : NoRel o a t) (hu : ∀ op ∈ u, op.act ≠ .mark (.release a)) : NoRel o a (t ++ u) := by
  obtain ⟨p, h0, h1, h2⟩ := h
  refine ⟨p, by simp; omega, fun i g hi hg => h1 i g hi (by rw [← g?_old (u := u) (by omega)]; exact hg), fun i hi he => ?_⟩
  obtain ⟨op, ho, hoa⟩ := Option.map_eq_some_iff.1 he
  rcases getElem?_append_cases ho with ⟨_, ho'⟩ | ⟨_, hou⟩
  · exact h2 i hi (by rw [act?_of ho', hoa])
  · exact hu op hou hoa
section
variable (P : Program) (ty : TypeId) (o Wg C n : Nat) (SB : Blocks) (Res : Nat → Blocks → Value → World → Prop)
/-- the trace. -/
structure TInv (j : Nat) (D : Nat → WX) (w : World) (t : Trace) : Prop where
  ct : CT (ShP Wg SB) (OwnD o C j D) (RdD o j D) t (o - 1 + j)
  norel : NoRel o (stA Wg) t
  hand : ∀ i g, t.g? i = some g → g ≠ 0 → g < o → t.counts i → ∃ q, t.g? q = some 0 ∧ HappensBefore t i q
  known : ∀ i a, touchAt t i = some a → Knows t 0 i ∨ (ShP Wg SB a.loc ∧ a.kind = .atomic) ∨ ∃ g, t.g? i = some g ∧ o ≤ g ∧ a.kind ≠ .atomic
  mem : ∀ i a, touchAt t i = some a → a.loc.isMemory = true
  seen : ∀ op ∈ t, LowT w.heap.size op.act
structure PCom (j : Nat) (gs : Array Goroutine) (w : World) (t : Trace) (D : Nat → WX) (q : Nat → Nat) (d0 : Nat) : Prop where
  size : gs.size = o + j
  old : ∀ i g, 0 < i → i < o → gs[i]? = some g → QuitsD P (q i) (Deaf t i) g
  wk : ∀ i, i < j → ∃ g, gs[o + i]? = some g ∧ WS P ty Wg C n Res i (D i) g w
  tr : TInv o Wg C SB j D w t
  deaf0 : Deaf t 0 = d0
  deafW : ∀ i, i < j → Deaf t (o + i) = (D i).deaf
  above : ∀ k, o + j ≤ k → Deaf t k = 0
  rel : ∀ i, i < j → (D i).stage ≤ 6 → ∃ r, RelBy (stA Wg) t (o + i) r
  has : ∀ i, i < j → (D i).stage ≤ 6 → Has C i (D i).val w
  pay : PayAt C n w
  opos : 0 < o
end

section
variable {P : Program} {ty : TypeId} {o Wg C n : Nat} {SB : Blocks} {Res : Nat → Blocks → Value → World → Prop} {j : Nat} {gs : Array Goroutine} {w w' : World} {t : Trace} {D : Nat → WX} {q : Nat → Nat} {d0 : Nat} {FM OM : Blocks}

omit [Payload] in
theorem Sep.own (h : Sep Wg C SB j D FM OM w) : Apart (ShP Wg SB) (OwnD o C j D) (RdD o j D) := by
  have inF : ∀ {B : Blocks} {l : Loc}, locIn B l → ∃ b, B b ∧ ((∃ a, l = .cell a ∧ a.block = b) ∨ l = .obj b) := by
    intro B l hl
    cases l with
    | cell a => exact ⟨_, hl, .inl ⟨a, rfl, rfl⟩⟩
    | obj r => exact ⟨_, hl, .inr rfl⟩
    | _ => exact hl.elim
  have same : ∀ {b b' : Nat} {l : Loc}, ((∃ a : Addr, l = .cell a ∧ a.block = b) ∨ l = .obj b) → ((∃ a : Addr, l = .cell a ∧ a.block = b') ∨ l = .obj b') → b = b' := by
    intro b b' l h1 h2
    rcases h1 with ⟨a, rfl, rfl⟩ | rfl
    · rcases h2 with ⟨a', e, rfl⟩ | e
      · cases e; rfl
      · cases e
    · rcases h2 with ⟨a', e, rfl⟩ | e
      · cases e
      · cases e; rfl
  have cellC : ∀ {b i : Nat} {l : Loc}, l = .cell ⟨C, i, none⟩ → ((∃ a : Addr, l = .cell a ∧ a.block = b) ∨ l = .obj b) → b = C := by
    intro b i l e h1
    subst e
    rcases h1 with ⟨a, e, rfl⟩ | e
    · cases e; rfl
    · cases e
  have shb : ∀ {l : Loc} {b : Nat}, ShP Wg SB l → ((∃ a : Addr, l = .cell a ∧ a.block = b) ∨ l = .obj b) → SB b ∨ b = Wg := by
    rintro l b ⟨a, rfl, hs⟩ h1
    rcases h1 with ⟨a', e, rfl⟩ | e
    · cases e; exact hs
    · cases e
  refine ⟨?_, ?_, ?_, ?_⟩
  · rintro k k' l ⟨i, hi, rfl, h1⟩ ⟨i', hi', rfl, h2⟩
    by_cases e : i = i'
    · rw [e]
    · exfalso
      rcases h1 with h1 | h1 <;> rcases h2 with h2 | h2
      · obtain ⟨b, hb, hl⟩ := inF h1
        obtain ⟨b', hb', hl'⟩ := inF h2
        obtain rfl := same hl hl'
        exact h.apart i i' hi hi' e b hb (h.wO i' hi' b hb')
      · obtain ⟨b, hb, hl⟩ := inF h1
        exact (h.wF i hi b (h.wO i hi b hb)).2.2.1 (cellC h2 hl)
      · obtain ⟨b, hb, hl⟩ := inF h2
        exact (h.wF i' hi' b (h.wO i' hi' b hb)).2.2.1 (cellC h1 hl)
      · rw [h1] at h2; cases h2; exact e rfl
  · rintro k k' l ⟨i, hi, rfl, h1⟩ ⟨i', hi', rfl, h2⟩
    obtain ⟨b', ⟨hb', hno⟩, hl'⟩ := inF h2
    rcases h1 with h1 | h1
    · obtain ⟨b, hb, hl⟩ := inF h1
      obtain rfl := same hl hl'
      by_cases e : i = i'
      · subst e; exact hno hb
      · exact h.apart i i' hi hi' e b hb hb'
    · exact (h.wF i' hi' b' hb').2.2.1 (cellC h1 hl')
  · rintro k l ⟨i, hi, rfl, h1⟩ hs
    rcases h1 with h1 | h1
    · obtain ⟨b, hb, hl⟩ := inF h1
      have := h.wF i hi b (h.wO i hi b hb)
      rcases shb hs hl with x | x
      · exact this.2.2.2 x
      · exact this.2.1 x
    · have := shb (b := C) hs (.inl ⟨_, h1, rfl⟩)
      rcases this with x | x
      · exact h.sC x
      · exact h.hCW x
  · rintro k l ⟨i, hi, rfl, h1⟩ hs
    obtain ⟨b, ⟨hb, _⟩, hl⟩ := inF h1
    have := h.wF i hi b hb
    rcases shb hs hl with x | x
    · exact this.2.2.2 x
    · exact this.2.1 x
end

end Go.Proofs.YtkpekiajdlolnaaGreat.Ph

/-
  THE PHASE, seventh text: how the trace's law grows.
-/
namespace Go.Proofs.YtkpekiajdlolnaaGreat.Ph
open Go Go.Conc Go.ConcN Go.Proofs.YtkpekiajdlolnaaGreat.Sim
open Go.ConcR (KK WgAt stA smA rd wr mk Payload DC0 g_of_ofEvents)

section
variable {o Wg C : Nat} {SB : Blocks} {j : Nat} {w w' : World} {t u : Trace} {D D' : Nat → WX}

theorem hand_app (h : ∀ i g, t.g? i = some g → g ≠ 0 → g < o → t.counts i → ∃ q, t.g? q = some 0 ∧ HappensBefore t i q)
    (hu : ∀ op ∈ u, op.g = 0 ∨ o ≤ op.g ∨ op.act.touch? = none) : ∀ i g, (t ++ u).g? i = some g → g ≠ 0 → g < o → (t ++ u).counts i → ∃ q, (t ++ u).g? q = some 0 ∧ HappensBefore (t ++ u) i q := by
  intro i g hg hne hlt hc
  have hc0 := hc
  obtain ⟨x, hx, _⟩ := hc
  obtain ⟨op, hop, hox⟩ := touch_of hx
  rcases getElem?_append_cases hop with ⟨hi, hop'⟩ | ⟨_, hopu⟩
  · obtain ⟨q, hq, hb⟩ := h i g (by simpa [Trace.g?, getElem?_append_old hi] using hg) hne hlt ((counts_old hi).1 hc0)
    have hjl : q < t.size := by
      unfold Trace.g? at hq
      obtain ⟨z, hz, _⟩ := Option.map_eq_some_iff.1 hq
      exact lt_size_of_getElem? hz
    exact ⟨q, by simpa [Trace.g?, getElem?_append_old hjl] using hq, hb_app u hb⟩
  · have eg : op.g = g := by simpa [Trace.g?, hop] using hg
    rcases hu op hopu with h0 | h0 | h0
    · omega
    · omega
    · rw [h0] at hox; cases hox

theorem known_app (h : ∀ i a, touchAt t i = some a → Knows t 0 i ∨ (ShP Wg SB a.loc ∧ a.kind = .atomic) ∨ ∃ g, t.g? i = some g ∧ o ≤ g ∧ a.kind ≠ .atomic)
    (hu : ∀ op ∈ u, ∀ x, op.act.touch? = some x → op.g = 0 ∨ (ShP Wg SB x.loc ∧ x.kind = .atomic) ∨ (o ≤ op.g ∧ x.kind ≠ .atomic)) :
    ∀ i a, touchAt (t ++ u) i = some a → Knows (t ++ u) 0 i ∨ (ShP Wg SB a.loc ∧ a.kind = .atomic) ∨ ∃ g, (t ++ u).g? i = some g ∧ o ≤ g ∧ a.kind ≠ .atomic := by
  intro i a ha
  obtain ⟨op, hop, hox⟩ := touch_of ha
  rcases getElem?_append_cases hop with ⟨hi, hop'⟩ | ⟨_, hopu⟩
  · rcases h i a (by rw [touchAt_of hop']; exact hox) with h0 | h0 | ⟨g, h0, h1⟩
    · exact .inl (h0.app u)
    · exact .inr (.inl h0)
    · exact .inr (.inr ⟨g, by rw [g?_old hi]; exact h0, h1⟩)
  · rcases hu op hopu a hox with h0 | h0 | h0
    · have := knows_own hop
      rw [h0] at this
      exact .inl this
    · exact .inr (.inl h0)
    · exact .inr (.inr ⟨op.g, by simp [Trace.g?, hop], h0⟩)

/-- A place in one of these blocks, from B on: fresh. -/
theorem fresh_of {B : Nat} (h : ∀ op ∈ t, LowT B op.act) {l : Loc} {S : Blocks} (hl : locIn S l) (hS : ∀ b, S b → B ≤ b) : Fresh t l := by
  cases l with
  | cell a => exact fresh_cell h (hS _ hl)
  | obj r =>
    intro i x hx e
    obtain ⟨op, hop, hox⟩ := touch_of hx
    have hlow := h op (mem_of_getElem? hop) x hox
    rw [e] at hlow
    exact Nat.lt_irrefl _ (Nat.lt_of_lt_of_le hlow (hS _ hl))
  | _ => exact hl.elim

theorem locIn_sub {A B E : Blocks} (h : ∀ b, A b → B b ∨ E b) {l : Loc} (hl : locIn A l) : locIn B l ∨ locIn E l := by
  cases l with
  | cell a => exact h _ hl
  | obj r => exact h _ hl
  | _ => exact hl.elim

/-- A STEP OF WORKER NUMBER i. -/
theorem TInv.appW (h : TInv o Wg C SB j D w t) (A : Apart (ShP Wg SB) (OwnD o C j D') (RdD o j D')) {i : Nat} (hi : i < j) (ho : 0 < o) (hsz : w.heap.size ≤ w'.heap.size)
    (hD : ∀ i', i' ≠ i → D' i' = D i') (hF : ∀ b, (D i).F b → (D' i).F b) (hO : ∀ b, (D i).O b → (D' i).O b) (hF' : ∀ b, (D' i).F b → (D i).F b ∨ w.heap.size ≤ b) (hO' : ∀ b, (D' i).O b → (D i).O b ∨ w.heap.size ≤ b) (hlow : ∀ b, (D i).F b → b < w.heap.size)
    (hg : ∀ op ∈ u, op.g = o + i)
    (hk : ∀ op ∈ u, ∀ x, op.act.touch? = some x → x.loc.isMemory = true ∧ ((ShP Wg SB x.loc ∧ x.kind = .atomic) ∨ (x.kind = .plain ∧ (OwnD o C j D' (o + i) x.loc ∨ (RdD o j D' (o + i) x.loc ∧ x.write = false)))))
    (hn : ∀ op ∈ u, op.act ≠ .mark (.release (stA Wg))) (hl : ∀ op ∈ u, LowT w'.heap.size op.act) : TInv o Wg C SB j D' w' (t ++ u) := by
  have grow : CT (ShP Wg SB) (OwnD o C j D') (RdD o j D') t (o - 1 + j) := by
    refine CT.grow h.ct (fun k l => ?_) (fun k l => ?_) (fun k l => ?_) (fun k l => ?_)
    · rintro ⟨i', hi', rfl, h1⟩
      by_cases e : i' = i
      · subst e
        rcases h1 with h1 | h1
        · rcases locIn_sub hO' h1 with h2 | h2
          · exact .inl ⟨i', hi', rfl, .inl h2⟩
          · exact .inr (fresh_of h.seen h2 fun _ x => x)
        · exact .inl ⟨i', hi', rfl, .inr h1⟩
      · rw [hD i' e] at h1
        exact .inl ⟨i', hi', rfl, h1⟩
    · rintro ⟨i', hi', rfl, h1⟩
      by_cases e : i' = i
      · subst e
        rcases locIn_sub (B := fun b => (D i').F b ∧ ¬ (D i').O b) (E := fun b => w.heap.size ≤ b) (fun b ⟨hb, hnb⟩ => (hF' b hb).imp (fun x => ⟨x, fun y => hnb (hO b y)⟩) id) h1 with h2 | h2
        · exact .inl ⟨i', hi', rfl, h2⟩
        · exact .inr (fresh_of h.seen h2 fun _ x => x)
      · rw [hD i' e] at h1
        exact .inl ⟨i', hi', rfl, h1⟩
    · rintro ⟨i', hi', rfl, h1⟩
      by_cases e : i' = i
      · subst e
        refine ⟨i', hi', rfl, h1.imp (fun x => ?_) id⟩
        cases l with
        | cell a => exact hO _ x
        | obj r => exact hO _ x
        | _ => exact x.elim
      · exact ⟨i', hi', rfl, by rw [hD i' e]; exact h1⟩
    · rintro ⟨i', hi', rfl, h1⟩
      by_cases e : i' = i
      · subst e
        have key : ∀ b, ((D i').F b ∧ ¬ (D i').O b) → ((D' i').F b ∧ ¬ (D' i').O b) := fun b ⟨x, y⟩ => ⟨hF b x, fun z => (hO' b z).elim y fun v => by have := hlow b x; omega⟩
        refine ⟨i', hi', rfl, ?_⟩
        cases l with
        | cell a => exact key _ h1
        | obj r => exact key _ h1
        | _ => exact h1.elim
      · exact ⟨i', hi', rfl, by rw [hD i' e]; exact h1⟩
  refine ⟨grow.appW A (k := o + i) (by omega) (by omega) fun op hop => ⟨hg op hop, fun x hx => ?_⟩, h.norel.app hn, hand_app h.hand fun op hop => .inr (.inl (by rw [hg op hop]; omega)), known_app h.known fun op hop x hx => ?_, mem_app h.mem fun op hop x hx => (hk op hop x hx).1, fun op hop => ?_⟩
  · rcases (hk op hop x hx).2 with ⟨h1, h2⟩ | ⟨h1, h2⟩
    · exact .inl ⟨h1, by rw [h2]; simp, by rw [h2]; simp⟩
    · exact .inr h2
  · rcases (hk op hop x hx).2 with h1 | ⟨h1, _⟩
    · exact .inr (.inl h1)
    · exact .inr (.inr ⟨by rw [hg op hop]; omega, by rw [h1]; simp⟩)
  · rcases Array.mem_append.1 hop with h' | h'
    · exact (h.seen op h').mono hsz
    · exact hl op h'

/-- A STEP OF THE STARTER's. -/
theorem TInv.app0 (h : TInv o Wg C SB j D w t) (A : Apart (ShP Wg SB) (OwnD o C j D) (RdD o j D)) (hsz : w.heap.size ≤ w'.heap.size) (hok : ∀ op ∈ u, Ok0 (ShP Wg SB) (OwnD o C j D) (RdD o j D) (o - 1 + j) op)
    (hm : ∀ op ∈ u, ∀ x, op.act.touch? = some x → x.loc.isMemory = true) (hn : ∀ op ∈ u, op.act ≠ .mark (.release (stA Wg))) (hl : ∀ op ∈ u, LowT w'.heap.size op.act) : TInv o Wg C SB j D w' (t ++ u) := by
  refine ⟨h.ct.app0 A hok, h.norel.app hn, hand_app h.hand fun op hop => .inl (hok op hop).1, known_app h.known fun op hop x _ => .inl (hok op hop).1, mem_app h.mem hm, fun op hop => ?_⟩
  rcases Array.mem_append.1 hop with h' | h'
  · exact (h.seen op h').mono hsz
  · exact hl op h'
end

end Go.Proofs.YtkpekiajdlolnaaGreat.Ph

/-
  THE PHASE, eighth text: the measure.
-/
namespace Go.Proofs.YtkpekiajdlolnaaGreat.Ph
open Go Go.Conc Go.ConcN Go.Proofs.YtkpekiajdlolnaaGreat.Sim

/-- one of the first N ranks goes down, all others stand. -/
def RL (N : Nat) (f g : Nat → Rank) : Prop := ∃ i, i < N ∧ Rank.sub (f i) (g i) ∧ ∀ k, k ≠ i → f k = g k
theorem RL.wf (N : Nat) : WellFounded (RL N) := by
  induction N with
  | zero => exact ⟨fun g => ⟨_, fun f ⟨i, hi, _⟩ => absurd hi (Nat.not_lt_zero i)⟩⟩
  | succ N ih =>
    have key : ∀ r : Rank, ∀ g : Nat → Rank, g N = r → Acc (RL (N + 1)) g := by
      intro r
      induction r using Rank.wf.induction with
      | _ r ihr =>
        intro g hg
        have inner : ∀ g : Nat → Rank, g N = r → Acc (RL (N + 1)) g := by
          intro g
          induction g using ih.induction with
          | _ g ihg =>
            intro hg
            refine ⟨_, fun f ⟨i, hi, hs, he⟩ => ?_⟩
            by_cases e : i = N
            · subst e
              exact ihr (f i) (hg ▸ hs) f rfl
            · exact ihg f ⟨i, by omega, hs, he⟩ ((he N (fun h => e h.symm)).trans hg)
        exact inner g hg
    exact ⟨fun g => key _ g rfl⟩

abbrev Mea := Nat × (Nat → Rank) × Nat
def MLt (N : Nat) : Mea → Mea → Prop := Prod.Lex (· < ·) (Prod.Lex (RL N) (· < ·))
theorem MLt.wf (N : Nat) : WellFounded (MLt N) := (Prod.lex Nat.lt_wfRel (Prod.lex ⟨RL N, RL.wf N⟩ Nat.lt_wfRel)).wf

end Go.Proofs.YtkpekiajdlolnaaGreat.Ph

/-
  THE PHASE, ninth text: how a step of each kind leaves what holds of the machine.
-/
namespace Go.Proofs.YtkpekiajdlolnaaGreat.Ph
open Go Go.Conc Go.ConcN Go.Proofs.YtkpekiajdlolnaaGreat.Sim
open Go.ConcR (KK WgAt stA smA rd wr mk Payload DC0 g_of_ofEvents)
variable [Payload]

section
variable {P : Program} {ty : TypeId} {o Wg C n : Nat} {SB : Blocks} {Res : Nat → Blocks → Value → World → Prop} {j : Nat} {gs : Array Goroutine} {w w' : World} {t : Trace} {D : Nat → WX} {q : Nat → Nat} {d0 : Nat} {FM OM : Blocks}

theorem WS.rely (hRes : ∀ i F v w w1, Res i F v w → Ext F w w1 → Res i F v w1) {i : Nat} {d : WX} {g : Goroutine} (h : WS P ty Wg C n Res i d g w) (e : Ext d.F w w') (r : RW ty Wg C n 0 i w w') : WS P ty Wg C n Res i d g w' := by
  cases h with
  | own h1 h2 h3 h => exact .own h1 h2 h3 (h.ext e)
  | lib h hr => exact .lib (h.rely (by simpa using r)) (hRes _ _ _ _ _ hr e)
theorem WS.status {i : Nat} {d : WX} {g : Goroutine} (h : WS P ty Wg C n Res i d g w) : g.status = .running ∨ g.status = .finished := by
  cases h with
  | own h1 h2 h3 h => exact .inl (wgo_run (fun _ _ _ _ x => x.1) h)
  | lib h hr => exact h.status
theorem WS.woken {i : Nat} {d : WX} {g : Goroutine} (h : WS P ty Wg C n Res i d g w) (a a' : Goroutine) (w1 : World) : woken P a a' w1 g = g := by
  unfold Go.Conc.woken
  split
  · exact again_running _ h.status
  · rfl

/-- A STEP OF WORKER NUMBER i (goroutine o + i). -/
theorem PCom.stepW (hRes : ∀ i F v w w1, Res i F v w → Ext F w w1 → Res i F v w1) (h : PCom P ty o Wg C n SB Res j gs w t D q d0) (S : Sep Wg C SB j D FM OM w) {i : Nat} (hi : i < j) {g g' : Goroutine} {fn : FuncId} {pos : String} {es : Array Event} {x : WX}
    (S' : Sep Wg C SB j (upd D i x) FM OM w')
    (hoth : ∀ i', i' < j → i' ≠ i → Ext (D i').F w w' ∧ RW ty Wg C n 0 i' w w') (hs' : WS P ty Wg C n Res i x g' w') (hsz : w.heap.size ≤ w'.heap.size)
    (hF : ∀ b, (D i).F b → x.F b) (hO : ∀ b, (D i).O b → x.O b) (hF' : ∀ b, x.F b → (D i).F b ∨ w.heap.size ≤ b) (hO' : ∀ b, x.O b → (D i).O b ∨ w.heap.size ≤ b)
    (hk : ∀ e ∈ es, ∀ y, (MemAct.ofEvent e).touch? = some y → y.loc.isMemory = true ∧ ((ShP Wg SB y.loc ∧ y.kind = .atomic) ∨ (y.kind = .plain ∧ (OwnD o C j (upd D i x) (o + i) y.loc ∨ (RdD o j (upd D i x) (o + i) y.loc ∧ y.write = false)))))
    (hnr : ∀ e ∈ es, e.loc ≠ .mark (.release (stA Wg))) (hl : ∀ e ∈ es, LowT w'.heap.size (MemAct.ofEvent e))
    (hdeaf : deafBehind (D i).deaf es = x.deaf) (hrel : x.stage ≤ 6 → ∃ r, RelBy (stA Wg) (t ++ MemOp.ofEvents (o + i) fn pos es) (o + i) r)
    (hhas : x.stage ≤ 6 → Has C i x.val w') (hpay : PayAt C n w') :
    PCom P ty o Wg C n SB Res j ((gs.map (woken P g g' w')).setIfInBounds (o + i) g') w' (t ++ MemOp.ofEvents (o + i) fn pos es) (upd D i x) q d0 := by
  have hop := h.opos
  have ne : ∀ k, k ≠ o + i → Deaf (t ++ MemOp.ofEvents (o + i) fn pos es) k = Deaf t k := fun k hk => Deaf_other t (fun e => hk e.symm) _ g_of_ofEvents
  refine ⟨by simp [h.size], fun i' g1 h0 hlt hg1 => ?_, fun i' hi' => ?_, ?_, by rw [ne 0 (by omega), h.deaf0], fun i' hi' => ?_, fun k hk' => by rw [ne k (by omega)]; exact h.above k hk', fun i' hi' hst => ?_, fun i' hi' hst => ?_, hpay, hop⟩
  · rw [get_map_set _ _ _ _ (by omega)] at hg1
    obtain ⟨y, hy, rfl⟩ := Option.map_eq_some_iff.1 hg1
    have hq := h.old i' y h0 hlt hy
    rw [woken_quitsD hq, ne i' (by omega)]
    exact hq
  · by_cases e : i' = i
    · subst e
      exact ⟨g', get_map_set_same _ _ _ (by rw [h.size]; omega), by rw [upd_same]; exact hs'⟩
    · obtain ⟨y, hy, hsy⟩ := h.wk i' hi'
      refine ⟨y, by rw [get_map_set _ _ _ _ (by omega), hy, Option.map_some, hsy.woken], ?_⟩
      rw [upd_ne D _ e]
      exact hsy.rely hRes (hoth i' hi' e).1 (hoth i' hi' e).2
  · refine h.tr.appW S'.own hi hop hsz (fun i' e => upd_ne D _ e) (by rw [upd_same]; exact hF) (by rw [upd_same]; exact hO) (by rw [upd_same]; exact hF') (by rw [upd_same]; exact hO') (fun b hb => (S.wF i hi b hb).1) g_of_ofEvents (fun op hop' y hy => ?_) (norel_of hnr) (fun op hop' => ?_)
    · obtain ⟨e, he, rfl⟩ := Go.Conc.mem_ofEvents hop'
      exact hk e he y hy
    · obtain ⟨e, he, rfl⟩ := Go.Conc.mem_ofEvents hop'
      exact hl e he
  · by_cases e : i' = i
    · subst e; rw [Deaf_own, h.deafW i' hi', upd_same]; exact hdeaf
    · rw [ne _ (by omega), h.deafW i' hi', upd_ne D _ e]
  · by_cases e : i' = i
    · subst e; rw [upd_same] at hst; exact hrel hst
    · rw [upd_ne D _ e] at hst
      obtain ⟨r, hr⟩ := h.rel i' hi' hst
      exact ⟨r, hr.appOther g_of_ofEvents (by omega)⟩
  · by_cases e : i' = i
    · subst e; rw [upd_same] at hst ⊢; exact hhas hst
    · rw [upd_ne D _ e] at hst ⊢
      exact (hoth i' hi' e).2.cell.trans (h.has i' hi' hst)

/-- A STEP OF THE STARTER's. -/
theorem PCom.step0 (hRes : ∀ i F v w w1, Res i F v w → Ext F w w1 → Res i F v w1) (h : PCom P ty o Wg C n SB Res j gs w t D q d0) (S : Sep Wg C SB j D FM OM w) {a a' : Goroutine} {fn : FuncId} {pos : String} {es : Array Event}
    (hoth : ∀ i, i < j → Ext (D i).F w w' ∧ RW ty Wg C n 0 i w w') (hsz : w.heap.size ≤ w'.heap.size)
    (hok : ∀ op ∈ MemOp.ofEvents 0 fn pos es, Ok0 (ShP Wg SB) (OwnD o C j D) (RdD o j D) (o - 1 + j) op) (hm : ∀ e ∈ es, ∀ y, (MemAct.ofEvent e).touch? = some y → y.loc.isMemory = true)
    (hnr : ∀ e ∈ es, e.loc ≠ .mark (.release (stA Wg))) (hl : ∀ e ∈ es, LowT w'.heap.size (MemAct.ofEvent e)) (hpay : PayAt C n w') :
    PCom P ty o Wg C n SB Res j ((gs.map (woken P a a' w')).setIfInBounds 0 a') w' (t ++ MemOp.ofEvents 0 fn pos es) D q (deafBehind d0 es) := by
  have hop := h.opos
  have ne : ∀ k, k ≠ 0 → Deaf (t ++ MemOp.ofEvents 0 fn pos es) k = Deaf t k := fun k hk => Deaf_other t (fun e => hk e.symm) _ g_of_ofEvents
  refine ⟨by simp [h.size], fun i' g1 h0 hlt hg1 => ?_, fun i' hi' => ?_, ?_, by rw [Deaf_own, h.deaf0], fun i' hi' => by rw [ne _ (by omega), h.deafW i' hi'], fun k hk' => by rw [ne k (by omega)]; exact h.above k hk', fun i' hi' hst => ?_, fun i' hi' hst => (hoth i' hi').2.cell.trans (h.has i' hi' hst), hpay, hop⟩
  · rw [get_map_set _ _ _ _ (by omega)] at hg1
    obtain ⟨y, hy, rfl⟩ := Option.map_eq_some_iff.1 hg1
    have hq := h.old i' y h0 hlt hy
    rw [woken_quitsD hq, ne i' (by omega)]
    exact hq
  · obtain ⟨y, hy, hsy⟩ := h.wk i' hi'
    exact ⟨y, by rw [get_map_set _ _ _ _ (by omega), hy, Option.map_some, hsy.woken], hsy.rely hRes (hoth i' hi').1 (hoth i' hi').2⟩
  · refine h.tr.app0 S.own hsz hok (fun op hop' y hy => ?_) (norel_of hnr) (fun op hop' => ?_)
    · obtain ⟨e, he, rfl⟩ := Go.Conc.mem_ofEvents hop'
      exact hm e he y hy
    · obtain ⟨e, he, rfl⟩ := Go.Conc.mem_ofEvents hop'
      exact hl e he
  · obtain ⟨r, hr⟩ := h.rel i' hi' hst
    exact ⟨r, hr.appOther g_of_ofEvents (by omega)⟩

/-- A STEP OF AN OLD LEAVER's. -/
theorem PCom.stepOld (h : PCom P ty o Wg C n SB Res j gs w t D q d0) (S : Sep Wg C SB j D FM OM w) {k : Nat} (k0 : 0 < k) (ko : k < o) {g g' : Goroutine} {fn : FuncId} {pos : String} {es : Array Event} {q1 : Nat}
    (hm : ∀ e ∈ es, e.mute = true) (hq : QuitsD P q1 (deafBehind (Deaf t k) es) g') :
    PCom P ty o Wg C n SB Res j ((gs.map (woken P g g' w)).setIfInBounds k g') w (t ++ MemOp.ofEvents k fn pos es) D (upd q k q1) d0 := by
  have hop := h.opos
  have ne : ∀ k', k' ≠ k → Deaf (t ++ MemOp.ofEvents k fn pos es) k' = Deaf t k' := fun k' hk => Deaf_other t (fun e => hk e.symm) _ g_of_ofEvents
  have quiet : ∀ op ∈ MemOp.ofEvents k fn pos es, op.act.touch? = none := fun op hop' => by obtain ⟨e, he, rfl⟩ := Go.Conc.mem_ofEvents hop'; exact touch_mute (hm e he)
  refine ⟨by simp [h.size], fun i' g1 h0 hlt hg1 => ?_, fun i' hi' => ?_, ?_, by rw [ne 0 (by omega), h.deaf0], fun i' hi' => by rw [ne _ (by omega), h.deafW i' hi'], fun k' hk' => by rw [ne k' (by omega)]; exact h.above k' hk', fun i' hi' hst => ?_, h.has, h.pay, hop⟩
  · by_cases e : i' = k
    · subst e
      rw [get_map_set_same _ _ _ (by rw [h.size]; omega)] at hg1
      cases hg1
      rw [upd_same, Deaf_own]
      exact hq
    · rw [get_map_set _ _ _ _ (fun x => e x.symm)] at hg1
      obtain ⟨y, hy, rfl⟩ := Option.map_eq_some_iff.1 hg1
      have hq := h.old i' y h0 hlt hy
      rw [woken_quitsD hq, ne i' e, upd_ne q _ e]
      exact hq
  · obtain ⟨y, hy, hsy⟩ := h.wk i' hi'
    exact ⟨y, by rw [get_map_set _ _ _ _ (by omega), hy, Option.map_some, hsy.woken], hsy⟩
  · have A := S.own (o := o)
    refine ⟨h.tr.ct.appW A (k := k) (by omega) (by omega) fun op hop' => ⟨g_of_ofEvents op hop', fun x hx => by rw [quiet op hop'] at hx; cases hx⟩, h.tr.norel.app (norel_of fun e he hl => (by have := hm e he; obtain ⟨l, _, _⟩ := e; have hl : l = _ := hl; subst hl; cases this)), hand_app h.tr.hand fun op hop' => .inr (.inr (quiet op hop')),
      known_app h.tr.known fun op hop' x hx => (by rw [quiet op hop'] at hx; cases hx), mem_app h.tr.mem fun op hop' x hx => (by rw [quiet op hop'] at hx; cases hx), seenT_app h.tr.seen fun op hop' => by obtain ⟨e, he, rfl⟩ := Go.Conc.mem_ofEvents hop'; exact lowT_of (low_mute (hm e he) _)⟩
  · obtain ⟨r, hr⟩ := h.rel i' hi' hst
    exact ⟨r, hr.appOther g_of_ofEvents (by omega)⟩

/-- A draw. -/
theorem PCom.at (hRes : ∀ i F v w w1, Res i F v w → Ext F w w1 → Res i F v w1) (h : PCom P ty o Wg C n SB Res j gs w t D q d0) (d : Nat) : PCom P ty o Wg C n SB Res j gs (w.at d) t D q d0 :=
  ⟨h.size, h.old, fun i hi => let ⟨g, hg, hs⟩ := h.wk i hi; ⟨g, hg, hs.rely hRes ⟨Nat.le_refl _, fun _ _ => rfl⟩ (RW.at w d)⟩, ⟨h.tr.ct, h.tr.norel, h.tr.hand, h.tr.known, h.tr.mem, h.tr.seen⟩, h.deaf0, h.deafW, h.above, h.rel, h.has, h.pay, h.opos⟩
end

end Go.Proofs.YtkpekiajdlolnaaGreat.Ph

/-
  THE PHASE, tenth text: the go statement.
-/
namespace Go.Proofs.YtkpekiajdlolnaaGreat.Ph
open Go Go.Conc Go.ConcN Go.Proofs.YtkpekiajdlolnaaGreat.Sim
open Go.ConcR (KK WgAt stA smA rd wr mk Payload DC0 g_of_ofEvents)
variable [Payload]

section
variable {P : Program} {ty : TypeId} {o Wg C n : Nat} {SB : Blocks} {Res : Nat → Blocks → Value → World → Prop} {j : Nat} {gs : Array Goroutine} {w : World} {t : Trace} {D : Nat → WX} {q : Nat → Nat} {FM OM : Blocks}

theorem PCom.spawn (h : PCom P ty o Wg C n SB Res j gs w t D q 0) {x : WX} (S' : Sep Wg C SB (j + 1) (upd D j x) FM OM w) {a' child : Goroutine} (h9 : x.stage = 9) (hx : x.deaf = 0) (hs : WS P ty Wg C n Res j x child w)
    {fn : FuncId} {pos : String} {fn' : FuncId} {pos' : String} :
    PCom P ty o Wg C n SB Res (j + 1) ((gs.setIfInBounds 0 a').push child) w (t ++ #[{ g := 0, fn, pos, act := .go (o + j) }, { g := o + j, fn := fn', pos := pos', act := .start }]) (upd D j x) q 0 := by
  have hop := h.opos
  have quiet : ∀ op ∈ (#[{ g := 0, fn, pos, act := .go (o + j) }, { g := o + j, fn := fn', pos := pos', act := .start }] : Trace), op.act.touch? = none ∧ (op.g = 0 ∨ op.g = o + j) ∧ op.act ≠ .mark (.release (stA Wg)) ∧ LowT w.heap.size op.act := fun op hop' => by
    simp only [List.mem_toArray, List.mem_cons, List.not_mem_nil, or_false] at hop'
    rcases hop' with rfl | rfl
    · exact ⟨rfl, .inl rfl, by simp, lowT_of trivial⟩
    · exact ⟨rfl, .inr rfl, by simp, lowT_of trivial⟩
  have deaf : ∀ k, Deaf (t ++ #[{ g := 0, fn, pos, act := .go (o + j) }, { g := o + j, fn := fn', pos := pos', act := .start }]) k = Deaf t k := fun k => by
    have := Deaf_append t k [{ g := 0, fn, pos, act := .go (o + j) }, { g := o + j, fn := fn', pos := pos', act := .start }]
    rw [show (#[{ g := 0, fn, pos, act := .go (o + j) }, { g := o + j, fn := fn', pos := pos', act := .start }] : Trace) = [{ g := 0, fn, pos, act := .go (o + j) }, { g := o + j, fn := fn', pos := pos', act := .start }].toArray from rfl, this]
    simp [deafStep]
  have lt0 : ∀ (i : Nat), i < j → i ≠ j := fun i hi => Nat.ne_of_lt hi
  refine ⟨by simp [h.size]; omega, fun i' g1 h0 hlt hg1 => ?_, fun i' hi' => ?_, ?_, by rw [deaf, h.deaf0], fun i' hi' => ?_, fun k hk => by rw [deaf]; exact h.above k (by omega), fun i' hi' hst => ?_, fun i' hi' hst => ?_, h.pay, hop⟩
  · have hs1 : i' < (gs.setIfInBounds 0 a').size := by simp [h.size]; omega
    rw [Array.getElem?_push_lt hs1] at hg1
    have hg2 : gs[i']? = some g1 := by
      rw [← hg1, ← Array.getElem?_eq_getElem hs1, Array.getElem?_setIfInBounds_ne (by omega)]
    rw [deaf]
    exact h.old i' g1 h0 hlt hg2
  · by_cases e : i' = j
    · subst e
      refine ⟨child, ?_, by rw [upd_same]; exact hs⟩
      have : o + i' = (gs.setIfInBounds 0 a').size := by simp [h.size]
      rw [this]
      exact Array.getElem?_push_size
    · obtain ⟨y, hy, hsy⟩ := h.wk i' (by omega)
      refine ⟨y, ?_, by rw [upd_ne D _ e]; exact hsy⟩
      have hs1 : o + i' < (gs.setIfInBounds 0 a').size := by simp [h.size]; omega
      rw [Array.getElem?_push_lt hs1, ← Array.getElem?_eq_getElem hs1, Array.getElem?_setIfInBounds_ne (by omega)]
      exact hy
  · have same : ∀ k l, k ≤ o - 1 + j → (OwnD o C (j + 1) (upd D j x) k l ↔ OwnD o C j D k l) ∧ (RdD o (j + 1) (upd D j x) k l ↔ RdD o j D k l) := by
      intro k l hk
      refine ⟨⟨?_, ?_⟩, ⟨?_, ?_⟩⟩
      · rintro ⟨i, hi, rfl, h1⟩
        have e : i ≠ j := by omega
        rw [upd_ne D _ e] at h1
        exact ⟨i, by omega, rfl, h1⟩
      · rintro ⟨i, hi, rfl, h1⟩
        exact ⟨i, by omega, rfl, by rw [upd_ne D _ (lt0 i hi)]; exact h1⟩
      · rintro ⟨i, hi, rfl, h1⟩
        have e : i ≠ j := by omega
        rw [upd_ne D _ e] at h1
        exact ⟨i, by omega, rfl, h1⟩
      · rintro ⟨i, hi, rfl, h1⟩
        exact ⟨i, by omega, rfl, by rw [upd_ne D _ (lt0 i hi)]; exact h1⟩
    have ct0 := h.tr.ct
    have ct1 : CT (ShP Wg SB) (OwnD o C (j + 1) (upd D j x)) (RdD o (j + 1) (upd D j x)) t (o - 1 + j) :=
      ⟨ct0.quiet, fun k k1 kj l hl => ct0.own k k1 kj l ((same k l kj).1.1 hl), fun k k1 kj l hl => ct0.rd k k1 kj l ((same k l kj).2.1 hl),
        fun l hs hl => ct0.free l hs fun k k1 kj => ⟨fun y => (hl k k1 kj).1 ((same k l kj).1.2 y), fun y => (hl k k1 kj).2 ((same k l kj).2.2 y)⟩, fun l hs hl => ct0.mine l hs fun k k1 kj y => hl k k1 kj ((same k l kj).1.2 y), ct0.nr, ct0.gs⟩
    have e1 : o - 1 + j + 1 = o + j := by omega
    have ct2 := CT.fork S'.own ct1 (x := { g := 0, fn, pos, act := .go (o + j) }) (y := { g := o + j, fn := fn', pos := pos', act := .start }) ⟨rfl, by rw [e1]⟩ ⟨by rw [e1], rfl⟩ h.deaf0
    refine ⟨ct2, h.tr.norel.app fun op hop' => (quiet op hop').2.2.1, hand_app h.tr.hand fun op hop' => .inr (.inr (quiet op hop').1), known_app h.tr.known fun op hop' y hy => (by rw [(quiet op hop').1] at hy; cases hy), mem_app h.tr.mem fun op hop' y hy => (by rw [(quiet op hop').1] at hy; cases hy), seenT_app h.tr.seen fun op hop' => (quiet op hop').2.2.2⟩
  · by_cases e : i' = j
    · subst e; rw [deaf, upd_same, hx]; exact h.above _ (Nat.le_refl _)
    · rw [deaf, h.deafW i' (by omega), upd_ne D _ e]
  · by_cases e : i' = j
    · subst e; rw [upd_same] at hst; omega
    · rw [upd_ne D _ e] at hst
      obtain ⟨r, hr⟩ := h.rel i' (by omega) hst
      refine ⟨r, hr.app fun i hi hg hc => ?_⟩
      obtain ⟨y, hy, _⟩ := hc
      obtain ⟨op, hop', hoy⟩ := touch_of hy
      rcases getElem?_append_cases hop' with ⟨hlt, _⟩ | ⟨_, hou⟩
      · omega
      · rw [(quiet op hou).1] at hoy; cases hoy
  · by_cases e : i' = j
    · subst e; rw [upd_same] at hst; omega
    · rw [upd_ne D _ e] at hst ⊢
      exact h.has i' (by omega) hst
end

end Go.Proofs.YtkpekiajdlolnaaGreat.Ph

/-
  THE PHASE, eleventh text: THE INVARIANT, whole; whatever step of a worker's.
-/
namespace Go.Proofs.YtkpekiajdlolnaaGreat.Ph
open Go Go.Conc Go.ConcN Go.Proofs.YtkpekiajdlolnaaGreat.Sim
open Go.ConcR (KK WgAt stA smA rd wr mk Payload DC0 g_of_ofEvents)
/-- how many are started, by the tag. -/
def JT (n : Nat) : Tag → Nat → Prop
  | .wg r, j => j + r = n
  | .kdS r, j | .ad r, j | .rs r, j | .en r, j | .gos r, j => j + r + 1 = n
  | _, j => j = n
def SSum (j : Nat) (D : Nat → WX) : Nat := sumTo j fun i => (D i).stage
def FSum (j : Nat) (D : Nat → WX) : Nat := sumTo j fun i => (D i).fuel
def ranks (n : Nat) (D : Nat → WX) (rk : Rank) : Nat → Rank := fun i => if i = n then rk else (D i).rank
/-- what stood below L0 when the phase began stands. -/
structure Kept (Wg C L0 : Nat) (w0 : World) (j : Nat) (D : Nat → WX) (OM : Blocks) (w : World) : Prop where
  keep : ∀ b, b < L0 → w.heap[b]? = w0.heap[b]?
  lW : L0 ≤ Wg
  lC : L0 ≤ C
  lO : ∀ i, i < j → ∀ b, (D i).O b → L0 ≤ b
  lM : ∀ b, OM b → L0 ≤ b
  tape : w.tape = w0.tape
  os : w.os = w0.os
  output : w.output = w0.output
  nb : NB w0 → NB w
theorem nb_of_block {w w' : World} {b : Nat} (_ : ∀ r, r ≠ b → w'.heap[r]? = w.heap[r]?) (_ : ∃ c e z, w'.heap[b]? = some (.cells c e z)) (_ : NB w) : NB w' := trivial

section
variable [Payload] (P : Program) (ty : TypeId) (o Wg C n : Nat) (SB : Blocks) (Res : Nat → Blocks → Value → World → Prop) (K : Goroutine → World → Prop) (L0 : Nat) (w0 : World)
def PInv (μ : Mea) (m : Machine) (t : Trace) : Prop :=
  ∃ (gs : Array Goroutine) (w : World) (sl : Option (Nat × Nat)) (j : Nat) (D : Nat → WX) (q : Nat → Nat) (tag : Tag) (f0 d0 : Nat) (rk : Rank) (FM OM : Blocks) (a : Goroutine) (st sm : Int),
    m = crowd gs w sl ∧ gs[0]? = some a ∧ MS P ty Wg C n Res K tag f0 d0 rk FM OM a w ∧ PCom P ty o Wg C n SB Res j gs w t D q d0 ∧ Sep Wg C SB j D FM OM w ∧ WgAt ty Wg w st sm ∧ Mo j (xd D) tag st sm ∧ JT n tag j ∧
    Kept Wg C L0 w0 j D OM w ∧ μ = (psi n (Vc j (xd D)) tag + SSum j D, ranks n D rk, f0 + 2 * FSum j D + 2 * sumTo o q)
end

theorem JT.retag {n j : Nat} {tag tag' : Tag} (h : JT n tag j) (e : tag' = tag ∨ (tag = .blk ∧ tag' = .sm)) : JT n tag' j := by
  rcases e with rfl | ⟨rfl, rfl⟩
  · exact h
  · exact h
theorem psi_retag (n v : Nat) {tag tag' : Tag} (e : tag' = tag ∨ (tag = .blk ∧ tag' = .sm)) : psi n v tag' = psi n v tag := by
  rcases e with rfl | ⟨rfl, rfl⟩ <;> rfl
theorem psi_mono (n : Nat) {v v' : Nat} (h : v' ≤ v) (tag : Tag) : psi n v' tag ≤ psi n v tag := by
  cases tag <;> simp only [psi] <;> omega
theorem JT.le {n j : Nat} {tag : Tag} (h : JT n tag j) : j ≤ n := by
  cases tag <;> simp only [JT] at h <;> omega

section
variable [Payload] {P : Program} {ty : TypeId} {o Wg C n : Nat} {SB : Blocks} {Res : Nat → Blocks → Value → World → Prop} {K : Goroutine → World → Prop} {L0 : Nat} {w0 : World} {gs : Array Goroutine} {w w' : World} {sl : Option (Nat × Nat)} {j : Nat} {D : Nat → WX} {q : Nat → Nat} {tag : Tag} {f0 d0 : Nat} {rk : Rank} {FM OM : Blocks} {a : Goroutine} {t : Trace}

/-- WHATEVER STEP OF WORKER NUMBER i. -/
theorem workerStep (hRes : ∀ i F v w w1, Res i F v w → Ext F w w1 → Res i F v w1) (ha : gs[0]? = some a) (hms : MS P ty Wg C n Res K tag f0 d0 rk FM OM a w) (hcom : PCom P ty o Wg C n SB Res j gs w t D q d0) (S : Sep Wg C SB j D FM OM w) (hjt : JT n tag j) (hk0 : Kept Wg C L0 w0 j D OM w)
    {i : Nat} (hi : i < j) {g g' : Goroutine} {es : Array Event} {x : WX} {st' sm' : Int} (hg : gs[o + i]? = some g) (hgo : stepG P false g w = .go g' w' es)
    (S' : Sep Wg C SB j (upd D i x) FM OM w') (hRM : RM ty Wg FM w w')
    (hoth : ∀ i', i' < j → i' ≠ i → Ext (D i').F w w' ∧ RW ty Wg C n 0 i' w w') (hs' : WS P ty Wg C n Res i x g' w') (hsz : w.heap.size ≤ w'.heap.size)
    (hF : ∀ b, (D i).F b → x.F b) (hO : ∀ b, (D i).O b → x.O b) (hF' : ∀ b, x.F b → (D i).F b ∨ w.heap.size ≤ b) (hO' : ∀ b, x.O b → (D i).O b ∨ w.heap.size ≤ b)
    (hk : ∀ e ∈ es, ∀ y, (MemAct.ofEvent e).touch? = some y → y.loc.isMemory = true ∧ ((ShP Wg SB y.loc ∧ y.kind = .atomic) ∨ (y.kind = .plain ∧ (OwnD o C j (upd D i x) (o + i) y.loc ∨ (RdD o j (upd D i x) (o + i) y.loc ∧ y.write = false)))))
    (hnr : ∀ e ∈ es, e.loc ≠ .mark (.release (stA Wg))) (hl : ∀ e ∈ es, LowT w'.heap.size (MemAct.ofEvent e))
    (hdeaf : deafBehind (D i).deaf es = x.deaf) (hrel : x.stage ≤ 6 → ∃ r, RelBy (stA Wg) (t ++ MemOp.ofEvents (o + i) g.frame.fn g.frame.place es) (o + i) r)
    (hhas : x.stage ≤ 6 → Has C i x.val w') (hpay : PayAt C n w') (hwg : WgAt ty Wg w' st' sm')
    (hmode : ∀ tag', (tag' = tag ∨ (tag = .blk ∧ tag' = .sm)) → (mayWake P g = true → g'.status = .running → tag' ≠ .blk) → Mo j (xd (upd D i x)) tag' st' sm')
    (hk1 : Kept Wg C L0 w0 j (upd D i x) OM w')
    (hlt : (x.stage < (D i).stage ∧ cnt (xd (upd D i x) i) ≤ cnt (xd D i)) ∨ (x.stage = (D i).stage ∧ Rank.sub x.rank (D i).rank) ∨ (x.stage = (D i).stage ∧ x.rank = (D i).rank ∧ x.fuel + 1 = (D i).fuel)) :
    ∃ m₁ ops μ', runT P (crowd gs w sl) (o + i) = (.next m₁, ops) ∧ MLt (n + 1) μ' (psi n (Vc j (xd D)) tag + SSum j D, ranks n D rk, f0 + 2 * FSum j D + 2 * sumTo o q) ∧ PInv P ty o Wg C n SB Res K L0 w0 μ' m₁ (t ++ ops) := by
  have hop := hcom.opos
  have hjn := hjt.le
  obtain ⟨tag', f', hms', hf', htag, hwk⟩ := hms.wokenBy hRM g g'
  have hrun := runT_crowd_go (P := P) (sl := sl) (i := o + i) hg (by rw [show (o + i == 0) = false from by simp; omega]; exact hgo)
  have hcom' := hcom.stepW (fn := g.frame.fn) (pos := g.frame.place) hRes S hi S' hoth hs' hsz hF hO hF' hO' hk hnr hl hdeaf hrel hhas hpay (g := g)
  refine ⟨_, _, _, hrun, ?_, _, w', sl, j, upd D i x, q, tag', f', d0, rk, FM, OM, woken P g g' w' a, st', sm', rfl, by rw [get_map_set _ _ _ _ (by omega), ha]; rfl, hms', hcom', S', hwg, hmode tag' htag hwk, hjt.retag htag, hk1, rfl⟩
  rw [psi_retag n _ htag]
  have e1 := sumTo_upd D x (fun d : WX => cnt ⟨if d.stage = 9 then 7 else d.stage, d.fuel, d.deaf⟩) hi
  have e2 := sumTo_upd D x WX.stage hi
  have e3 := sumTo_upd D x WX.fuel hi
  have c1 : cnt (xd (upd D i x) i) = cnt ⟨if x.stage = 9 then 7 else x.stage, x.fuel, x.deaf⟩ := by simp only [xd, upd_same]
  have v1 : Vc j (xd (upd D i x)) = sumTo j fun a => cnt ⟨if (upd D i x a).stage = 9 then 7 else (upd D i x a).stage, (upd D i x a).fuel, (upd D i x a).deaf⟩ := rfl
  have v2 : Vc j (xd D) = sumTo j fun a => cnt ⟨if (D a).stage = 9 then 7 else (D a).stage, (D a).fuel, (D a).deaf⟩ := rfl
  rcases hlt with ⟨h1, h2⟩ | ⟨h1, h2⟩ | ⟨h1, h2, h3⟩
  · refine Prod.Lex.left _ _ ?_
    rw [c1] at h2
    have h2' : cnt ⟨if x.stage = 9 then 7 else x.stage, x.fuel, x.deaf⟩ ≤ cnt ⟨if (D i).stage = 9 then 7 else (D i).stage, (D i).fuel, (D i).deaf⟩ := h2
    have := psi_mono n (v' := Vc j (xd (upd D i x))) (v := Vc j (xd D)) (by rw [v1, v2]; omega) tag
    simp only [SSum]
    omega
  · have ec : cnt ⟨if x.stage = 9 then 7 else x.stage, x.fuel, x.deaf⟩ = cnt ⟨if (D i).stage = 9 then 7 else (D i).stage, (D i).fuel, (D i).deaf⟩ := by simp only [cnt, h1]
    have ev : Vc j (xd (upd D i x)) = Vc j (xd D) := by rw [v1, v2]; omega
    have es : SSum j (upd D i x) = SSum j D := by simp only [SSum]; omega
    rw [ev, es]
    refine Prod.Lex.right _ (Prod.Lex.left _ _ ⟨i, by omega, ?_, fun k hk => ?_⟩)
    · simp only [ranks, upd_same]
      rw [if_neg (by omega), if_neg (by omega)]
      exact h2
    · simp only [ranks]
      rw [upd_ne D _ hk]
  · have ec : cnt ⟨if x.stage = 9 then 7 else x.stage, x.fuel, x.deaf⟩ = cnt ⟨if (D i).stage = 9 then 7 else (D i).stage, (D i).fuel, (D i).deaf⟩ := by simp only [cnt, h1]
    have ev : Vc j (xd (upd D i x)) = Vc j (xd D) := by rw [v1, v2]; omega
    have es : SSum j (upd D i x) = SSum j D := by simp only [SSum]; omega
    have er : ranks n (upd D i x) rk = ranks n D rk := by
      funext k
      simp only [ranks]
      by_cases e : k = i
      · subst e; rw [upd_same, h2]
      · rw [upd_ne D _ e]
    rw [ev, es, er]
    refine Prod.Lex.right _ (Prod.Lex.right _ ?_)
    simp only [FSum]
    omega
end

end Go.Proofs.YtkpekiajdlolnaaGreat.Ph

/-
  THE PHASE, twelfth text: whatever step of the starter's, of a leaver's.
-/
namespace Go.Proofs.YtkpekiajdlolnaaGreat.Ph
open Go Go.Conc Go.ConcN Go.Proofs.YtkpekiajdlolnaaGreat.Sim
open Go.ConcR (KK WgAt stA smA rd wr mk Payload DC0 g_of_ofEvents)

section
variable [Payload] {P : Program} {ty : TypeId} {o Wg C n : Nat} {SB : Blocks} {Res : Nat → Blocks → Value → World → Prop} {K : Goroutine → World → Prop} {L0 : Nat} {w0 : World} {gs : Array Goroutine} {w w' : World} {sl : Option (Nat × Nat)} {j : Nat} {D : Nat → WX} {q : Nat → Nat} {tag : Tag} {f0 d0 : Nat} {rk : Rank} {FM OM : Blocks} {a : Goroutine} {t : Trace}

/-- WHATEVER STEP OF THE STARTER's THAT IS NO go STATEMENT. -/
theorem callerStep (hRes : ∀ i F v w w1, Res i F v w → Ext F w w1 → Res i F v w1) (ha : gs[0]? = some a) (hcom : PCom P ty o Wg C n SB Res j gs w t D q d0) (S : Sep Wg C SB j D FM OM w)
    {a' : Goroutine} {es : Array Event} {tag' : Tag} {f' : Nat} {rk' : Rank} {FM' OM' : Blocks} {st' sm' : Int} (hgo : stepG P true a w = .go a' w' es)
    (hms' : MS P ty Wg C n Res K tag' f' (deafBehind d0 es) rk' FM' OM' a' w') (S' : Sep Wg C SB j D FM' OM' w')
    (hoth : ∀ i, i < j → Ext (D i).F w w' ∧ RW ty Wg C n 0 i w w') (hsz : w.heap.size ≤ w'.heap.size)
    (hok : ∀ op ∈ MemOp.ofEvents 0 a.frame.fn a.frame.place es, Ok0 (ShP Wg SB) (OwnD o C j D) (RdD o j D) (o - 1 + j) op) (hm : ∀ e ∈ es, ∀ y, (MemAct.ofEvent e).touch? = some y → y.loc.isMemory = true)
    (hnr : ∀ e ∈ es, e.loc ≠ .mark (.release (stA Wg))) (hl : ∀ e ∈ es, LowT w'.heap.size (MemAct.ofEvent e)) (hpay : PayAt C n w')
    (hwg : WgAt ty Wg w' st' sm') (hmode : Mo j (xd D) tag' st' sm') (hjt : JT n tag' j) (hk1 : Kept Wg C L0 w0 j D OM' w')
    (hlt : psi n (Vc j (xd D)) tag' < psi n (Vc j (xd D)) tag ∨ (psi n (Vc j (xd D)) tag' = psi n (Vc j (xd D)) tag ∧ Rank.sub rk' rk) ∨ (psi n (Vc j (xd D)) tag' = psi n (Vc j (xd D)) tag ∧ rk' = rk ∧ f' < f0)) :
    ∃ m₁ ops μ', runT P (crowd gs w sl) 0 = (.next m₁, ops) ∧ MLt (n + 1) μ' (psi n (Vc j (xd D)) tag + SSum j D, ranks n D rk, f0 + 2 * FSum j D + 2 * sumTo o q) ∧ PInv P ty o Wg C n SB Res K L0 w0 μ' m₁ (t ++ ops) := by
  have hop := hcom.opos
  have hjn := hjt.le
  have hrun := runT_crowd_go (P := P) (sl := sl) (i := 0) ha (show stepG P (0 == 0) a w = _ from hgo)
  have hcom' := hcom.step0 (fn := a.frame.fn) (pos := a.frame.place) hRes S hoth hsz hok hm hnr hl hpay (a := a) (a' := a')
  refine ⟨_, _, _, hrun, ?_, _, w', sl, j, D, q, tag', f', deafBehind d0 es, rk', FM', OM', a', st', sm', rfl, get_map_set_same _ _ _ (by rw [hcom.size]; omega), hms', hcom', S', hwg, hmode, hjt, hk1, rfl⟩
  rcases hlt with h | ⟨h1, h2⟩ | ⟨h1, h2, h3⟩
  · exact Prod.Lex.left _ _ (by omega)
  · rw [h1]
    refine Prod.Lex.right _ (Prod.Lex.left _ _ ⟨n, by omega, by simp only [ranks, if_true]; exact h2, fun k hk => ?_⟩)
    simp only [ranks]
    rw [if_neg hk, if_neg hk]
  · rw [h1, h2]
    exact Prod.Lex.right _ (Prod.Lex.right _ (by omega))

/-- A STEP OF AN OLD LEAVER's. -/
theorem oldStep (ha : gs[0]? = some a) (hms : MS P ty Wg C n Res K tag f0 d0 rk FM OM a w) (hcom : PCom P ty o Wg C n SB Res j gs w t D q d0) (S : Sep Wg C SB j D FM OM w) (hjt : JT n tag j) (hk0 : Kept Wg C L0 w0 j D OM w)
    {st sm : Int} (hwg : WgAt ty Wg w st sm) (hmode : ∀ tag', (tag' = tag ∨ (tag = .blk ∧ tag' = .sm)) → Mo j (xd D) tag' st sm) {k : Nat} (k0 : 0 < k) (ko : k < o) {g : Goroutine} (hg : gs[k]? = some g) (hrun : g.status = .running) :
    ∃ m₁ ops μ', runT P (crowd gs w sl) k = (.next m₁, ops) ∧ MLt (n + 1) μ' (psi n (Vc j (xd D)) tag + SSum j D, ranks n D rk, f0 + 2 * FSum j D + 2 * sumTo o q) ∧ PInv P ty o Wg C n SB Res K L0 w0 μ' m₁ (t ++ ops) := by
  have hq := hcom.old k g k0 ko hg
  cases hqk : q k with
  | zero => rw [hqk] at hq; rw [hq.1] at hrun; cases hrun
  | succ q1 =>
    rw [hqk] at hq
    rcases hq with ⟨hf, _⟩ | ⟨_, g', es, hm, hstp, hq'⟩
    · rw [hf] at hrun; cases hrun
    have hrunT := runT_crowd_go (P := P) (sl := sl) (i := k) hg (by rw [show (k == 0) = false from by simp; omega]; exact hstp w)
    obtain ⟨tag', f', hms', hf', htag, hwk⟩ := hms.wokenBy (rm_refl w) g g'
    refine ⟨_, _, _, hrunT, ?_, _, w, sl, j, D, upd q k q1, tag', f', d0, rk, FM, OM, woken P g g' w a, st, sm, rfl, by rw [get_map_set _ _ _ _ (by omega), ha]; rfl, hms', hcom.stepOld S k0 ko hm hq', S, hwg, hmode tag' htag, hjt.retag htag, hk0, rfl⟩
    rw [psi_retag n _ htag]
    have hsum : sumTo o (upd q k q1) + (q1 + 1) = sumTo o q + q1 := by
      have := sumTo_upd q q1 id ko
      simpa [hqk] using this
    exact Prod.Lex.right _ (Prod.Lex.right _ (by omega))
end

end Go.Proofs.YtkpekiajdlolnaaGreat.Ph

/-
  THE PHASE, thirteenth text: A WORKER's OWN STEP (its walk; the store).
-/
namespace Go.Proofs.YtkpekiajdlolnaaGreat.Ph
open Go Go.Conc Go.ConcN Go.Proofs.YtkpekiajdlolnaaGreat.Sim
open Go.ConcR (KK WgAt stA smA rd wr mk Payload DC0 g_of_ofEvents)

section
variable [Payload] {P : Program} {ty : TypeId} {o Wg C n : Nat} {SB : Blocks} {Res : Nat → Blocks → Value → World → Prop} {K : Goroutine → World → Prop} {L0 : Nat} {w0 : World} {gs : Array Goroutine} {w w' : World} {sl : Option (Nat × Nat)} {j : Nat} {D : Nat → WX} {q : Nat → Nat} {tag : Tag} {f0 d0 : Nat} {rk : Rank} {FM OM : Blocks} {a : Goroutine} {t : Trace} {st sm : Int}

theorem rw_same {i : Nat} (hW : w'.heap[Wg]? = w.heap[Wg]?) (hC : w'.heap[C]? = w.heap[C]?) : RW ty Wg C n 0 i w w' :=
  ⟨fun b hb => absurd hb (Nat.not_lt_zero b), fun ⟨s, m, h⟩ => ⟨s, m, by unfold WgAt at *; rw [hW]; exact h⟩, fun ⟨cs, h1, h2⟩ => ⟨cs, by rw [hC]; exact h1, h2⟩, cell_of_block hC i⟩


omit [Payload] in
theorem Mo.congr {D D' : Nat → WD} {tag : Tag} (h : ∀ a, a < j → (D' a).stage = (D a).stage) (hm : Mo j D tag st sm) : Mo j D' tag st sm := by
  have hv : Vc j D' = Vc j D := sumTo_congr fun a ha => by simp only [cnt, h a ha]
  cases hm with
  | opn h1 h2 h3 => rw [← hv]; exact .opn h1 (fun a ha => by rw [h a ha]; exact h2 a ha) (fun vs e => by rw [hv]; exact h3 vs e)
  | reg h1 h2 h3 => rw [← hv]; exact .reg h1 (fun a ha => by rw [h a ha]; exact h2 a ha) (by rw [hv]; exact h3)
  | last L h1 h2 h3 h4 => rw [← h L h2]; exact .last L h1 h2 (by rw [h L h2]; exact h3) (fun a ha e => by rw [h a ha]; exact h4 a ha e)
  | sema h1 h2 => exact .sema h1 fun a ha => by rw [h a ha]; exact h2 a ha
  | fin h1 h2 => exact .fin h1 fun a ha => by rw [h a ha]; exact h2 a ha
omit [Payload] in
theorem Mo.retag {D : Nat → WD} {tag tag' : Tag} (h : Mo j D tag st sm) (e : tag' = tag ∨ (tag = .blk ∧ tag' = .sm)) : Mo j D tag' st sm := by
  rcases e with rfl | ⟨rfl, rfl⟩
  · exact h
  · cases h with
    | opn h1 _ _ => exact h1.elim
    | reg _ h2 h3 => exact .reg trivial h2 h3
    | last L _ h2 h3 h4 => exact .last L trivial h2 h3 h4
    | sema h1 _ => rcases h1 with h1 | h1 <;> cases h1
    | fin h1 _ => exact h1.elim

omit [Payload] in
theorem touch_evF {F O : Blocks} {e : Event} (h : EvF F O e) {y : Touch} (hy : (MemAct.ofEvent e).touch? = some y) : y.loc.isMemory = true ∧ y.kind = .plain ∧ locIn F y.loc ∧ (y.write = true → locIn O y.loc) := by
  obtain ⟨loc, wt, sy⟩ := e
  cases loc with
  | cell b =>
    obtain ⟨h1, h2, h3⟩ := h
    have h1 : sy = false := h1
    subst h1
    rw [ofEvent_cell0] at hy
    simp only [MemAct.touch?, Option.some.injEq] at hy
    subst hy
    exact ⟨rfl, rfl, h2, h3⟩
  | obj r =>
    obtain ⟨h1, h2, h3⟩ := h
    have h1 : sy = false := h1
    subst h1
    have e0 : MemAct.ofEvent ⟨.obj r, wt, false⟩ = .access ⟨.obj r, wt, false⟩ := by cases wt <;> rfl
    rw [e0] at hy
    simp only [MemAct.touch?, Option.some.injEq] at hy
    subst hy
    exact ⟨rfl, rfl, h2, h3⟩
  | mark m =>
    cases m with
    | noRoom => simp [MemAct.ofEvent, MemAct.touch?] at hy
    | _ => exact h.elim
  | _ => exact h.elim
omit [Payload] in
theorem evF_facts {F O : Blocks} {e : Event} (h : EvF F O e) {B : Nat} (hB : ∀ b, F b → b < B) : e.loc ≠ .mark .disable ∧ e.loc ≠ .mark .enable ∧ e.loc ≠ .mark (.release (stA Wg)) ∧ (MemAct.ofEvent e).low B := by
  have := evL_of (SB := fun _ => False) h (fun _ _ x => x) hB
  refine ⟨this.2.1, this.2.2.1, fun hl => ?_, this.2.2.2⟩
  obtain ⟨loc, wt, sy⟩ := e
  have hl : loc = _ := hl
  subst hl
  exact h
end

end Go.Proofs.YtkpekiajdlolnaaGreat.Ph

/-
  THE PHASE, fourteenth text: A WORKER's OWN STEP: a step of its walk; the store.
-/
namespace Go.Proofs.YtkpekiajdlolnaaGreat.Ph
open Go Go.Conc Go.ConcN Go.Proofs.YtkpekiajdlolnaaGreat.Sim
open Go.ConcR (KK WgAt stA smA rd wr mk Payload DC0 g_of_ofEvents)

section
variable [Payload] {P : Program} {ty : TypeId} {o Wg C n : Nat} {SB : Blocks} {Res : Nat → Blocks → Value → World → Prop} {K : Goroutine → World → Prop} {L0 : Nat} {w0 : World} {gs : Array Goroutine} {w w' : World} {sl : Option (Nat × Nat)} {j : Nat} {D : Nat → WX} {q : Nat → Nat} {tag : Tag} {f0 d0 : Nat} {rk : Rank} {FM OM : Blocks} {a : Goroutine} {t : Trace} {st sm : Int}

omit [Payload] in
theorem Sep.stepW (S : Sep Wg C SB j D FM OM w) {i : Nat} (hi : i < j) {x : WX} (hsz : w.heap.size ≤ w'.heap.size) (hF' : ∀ b, x.F b → (D i).F b ∨ w.heap.size ≤ b) (hO' : ∀ b, x.O b → (D i).O b ∨ w.heap.size ≤ b) (hown : ∀ b, x.O b → x.F b) (hlow : ∀ b, x.F b → b < w'.heap.size) : Sep Wg C SB j (upd D i x) FM OM w' := by
  have lW := S.lW
  have lC := S.lC
  refine ⟨fun i' hi' b hb => ?_, fun i' hi' b hb => ?_, fun i1 i2 h1 h2 hne b hb hb2 => ?_, fun b hb => ?_, fun b hb => ?_, Nat.lt_of_lt_of_le S.lW hsz, Nat.lt_of_lt_of_le S.lC hsz, fun b hb => Nat.lt_of_lt_of_le (S.lS b hb) hsz, S.hCW, S.sW, S.sC⟩
  · by_cases e : i' = i
    · subst e
      rw [upd_same] at hb
      refine ⟨hlow b hb, ?_⟩
      rcases hF' b hb with h | h
      · exact (S.wF i' hi' b h).2
      · exact ⟨by omega, by omega, fun hs => by have := S.lS b hs; omega⟩
    · rw [upd_ne D _ e] at hb
      have := S.wF i' hi' b hb
      exact ⟨by omega, this.2⟩
  · by_cases e : i' = i
    · subst e; rw [upd_same] at hb ⊢; exact hown b hb
    · rw [upd_ne D _ e] at hb ⊢; exact S.wO i' hi' b hb
  · by_cases e1 : i1 = i
    · subst e1
      rw [upd_same] at hb
      rw [upd_ne D _ (fun h => hne h.symm)] at hb2
      rcases hO' b hb with h | h
      · exact S.apart _ _ h1 h2 hne b h hb2
      · have := (S.wF i2 h2 b hb2).1; omega
    · rw [upd_ne D _ e1] at hb
      by_cases e2 : i2 = i
      · subst e2
        rw [upd_same] at hb2
        rcases hF' b hb2 with h | h
        · exact S.apart _ _ h1 h2 hne b hb h
        · have := (S.wF i1 h1 b (S.wO i1 h1 b hb)).1; omega
      · rw [upd_ne D _ e2] at hb2
        exact S.apart _ _ h1 h2 hne b hb hb2
  · have := S.mF b hb
    refine ⟨by omega, this.2.1, this.2.2.1, this.2.2.2.1, fun i' hi' ho => ?_⟩
    by_cases e : i' = i
    · subst e
      rw [upd_same] at ho
      rcases hO' b ho with h | h
      · exact this.2.2.2.2 i' hi' h
      · omega
    · rw [upd_ne D _ e] at ho
      exact this.2.2.2.2 i' hi' ho
  · have h1 := S.mO b hb
    have h2 := S.mF b h1.1
    refine ⟨h1.1, fun i' hi' hf => ?_⟩
    by_cases e : i' = i
    · subst e
      rw [upd_same] at hf
      rcases hF' b hf with h | h
      · exact h1.2 i' hi' h
      · omega
    · rw [upd_ne D _ e] at hf
      exact h1.2 i' hi' hf

omit [Payload] in
/-- what stands below where the phase began. -/
theorem Kept.stepW (h : Kept Wg C L0 w0 j D OM w) {i : Nat} {x : WX} (hl0 : L0 ≤ w.heap.size) (hkeep : ∀ b, b < L0 → w'.heap[b]? = w.heap[b]?) (hO' : ∀ b, x.O b → (D i).O b ∨ w.heap.size ≤ b) (ht : w'.tape = w.tape) (hos : w'.os = w.os) (hout : w'.output = w.output) (hnb : NB w → NB w') : Kept Wg C L0 w0 j (upd D i x) OM w' := by
  refine ⟨fun b hb => (hkeep b hb).trans (h.keep b hb), h.lW, h.lC, fun i' hi' b hb => ?_, h.lM, ht.trans h.tape, hos.trans h.os, hout.trans h.output, fun x => hnb (h.nb x)⟩
  by_cases e : i' = i
  · subst e
    rw [upd_same] at hb
    rcases hO' b hb with y | y
    · exact h.lO i' hi' b y
    · omega
  · rw [upd_ne D _ e] at hb
    exact h.lO i' hi' b hb

/-- A STEP OF A WORKER's WALK. -/
theorem ownStep (hRes : ∀ i F v w w1, Res i F v w → Ext F w w1 → Res i F v w1) (ha : gs[0]? = some a) (hms : MS P ty Wg C n Res K tag f0 d0 rk FM OM a w) (hcom : PCom P ty o Wg C n SB Res j gs w t D q d0) (S : Sep Wg C SB j D FM OM w) (hjt : JT n tag j) (hk0 : Kept Wg C L0 w0 j D OM w)
    (hwg : WgAt ty Wg w st sm) (hmode : Mo j (xd D) tag st sm) {i : Nat} (hi : i < j) {g : Goroutine} (hg : gs[o + i]? = some g) (h9 : (D i).stage = 9) (hd : (D i).deaf = 0) {f : World → Rank} (hrk : (D i).rank = .node f)
    (hw : WGo P false (AtStore P ty Wg C n Res i) (.node f) (D i).F (D i).O g w) :
    ∃ m₁ ops μ', runT P (crowd gs w sl) (o + i) = (.next m₁, ops) ∧ MLt (n + 1) μ' (psi n (Vc j (xd D)) tag + SSum j D, ranks n D rk, f0 + 2 * FSum j D + 2 * sumTo o q) ∧ PInv P ty o Wg C n SB Res K L0 w0 μ' m₁ (t ++ ops) := by
  obtain ⟨F', O', g', w', es, hgo, ok, hw'⟩ := hw.2 w (Ext.refl ..)
  have lW := S.lW
  have lC := S.lC
  have nO : ∀ b, (D i).O b → b ≠ Wg ∧ b ≠ C := fun b hb => ⟨(S.wF i hi b (S.wO i hi b hb)).2.1, (S.wF i hi b (S.wO i hi b hb)).2.2.1⟩
  have hW : w'.heap[Wg]? = w.heap[Wg]? := ok.keep Wg lW fun h => (nO Wg h).1 rfl
  have hC : w'.heap[C]? = w.heap[C]? := ok.keep C lC fun h => (nO C h).2 rfl
  let x : WX := ⟨9, 0, 0, f w, F', O', (D i).val⟩
  have S' : Sep Wg C SB j (upd D i x) FM OM w' := S.stepW hi (x := x) ok.size ok.new ok.newO ok.own ok.low
  have hwg' : WgAt ty Wg w' st sm := by unfold WgAt at *; rw [hW]; exact hwg
  refine workerStep hRes ha hms hcom S hjt hk0 hi hg hgo (x := x) S' ⟨⟨ok.size, fun b hb => ok.keep b (S.mF b hb).1 ((S.mF b hb).2.2.2.2 i hi)⟩, fun _ => ⟨_, _, hwg'⟩⟩
    (fun i' hi' hne => ⟨⟨ok.size, fun b hb => ok.keep b (S.wF i' hi' b hb).1 fun ho => S.apart i i' hi hi' (fun e => hne e.symm) b ho hb⟩, rw_same hW hC⟩)
    (.own rfl rfl rfl hw') ok.size ok.sub ok.subO ok.new ok.newO (fun e he y hy => ?_) (fun e he => (evF_facts (ok.ev e he) ok.low).2.2.1) (fun e he => lowT_of (evF_facts (Wg := Wg) (ok.ev e he) ok.low).2.2.2)
    ?_ (fun h => absurd (show 9 ≤ 6 from h) (by decide)) (fun h => absurd (show 9 ≤ 6 from h) (by decide)) ?_ hwg' (fun tag' ht _ => (hmode.congr fun a' _ => ?_).retag ht) ?_ (.inr (.inl ⟨h9.symm, by rw [hrk]; exact ⟨w, rfl⟩⟩))
  · obtain ⟨h1, h2, h3, h4⟩ := touch_evF (ok.ev e he) hy
    refine ⟨h1, .inr ⟨h2, ?_⟩⟩
    by_cases ho : locIn O' y.loc
    · exact .inl ⟨i, hi, rfl, .inl (by rw [upd_same]; exact ho)⟩
    · refine .inr ⟨⟨i, hi, rfl, ?_⟩, by cases hyw : y.write with | false => rfl | true => exact absurd (h4 hyw) ho⟩
      rw [upd_same]
      show locIn (fun b => F' b ∧ ¬ O' b) y.loc
      generalize y.loc = l at h3 ho
      cases l with
      | cell c => exact ⟨h3, ho⟩
      | obj c => exact ⟨h3, ho⟩
      | _ => exact h3.elim
  · rw [hd]
    exact deafBehind_idle (fun e he => ⟨(evF_facts (Wg := Wg) (ok.ev e he) ok.low).1, (evF_facts (Wg := Wg) (ok.ev e he) ok.low).2.1⟩) 0
  · obtain ⟨cs, h1, h2⟩ := hcom.pay
    exact ⟨cs, by rw [hC]; exact h1, h2⟩
  · by_cases e : a' = i
    · subst e; simp only [xd, upd_same, h9, x]
    · simp only [xd]; rw [upd_ne D _ e]
  · exact hk0.stepW (x := x) (Nat.le_trans hk0.lW (Nat.le_of_lt lW)) (fun b hb => ok.keep b (Nat.lt_of_lt_of_le hb (Nat.le_trans hk0.lW (Nat.le_of_lt lW))) fun ho => by have := hk0.lO i hi b ho; omega) ok.newO ok.tape ok.os ok.output ok.nb
end

end Go.Proofs.YtkpekiajdlolnaaGreat.Ph

/-
  THE PHASE, fifteenth text: A WORKER's STORE; ITS STEPS IN THE LIBRARY.
-/
namespace Go.Proofs.YtkpekiajdlolnaaGreat.Ph
open Go Go.Conc Go.ConcN Go.Proofs.YtkpekiajdlolnaaGreat.Sim
open Go.ConcR (KK WgAt stA smA rd wr mk Payload DC0 g_of_ofEvents Bk bk_of_mute ofEvent_loc_mark ofEvent_cell)

section
variable [Payload] {C n i : Nat} {w : World}
theorem asideCell_set (hp : PayAt C n w) (v : Value) : AsideCell C n i w (w.setCell ⟨C, i, none⟩ v) := by
  have hA := aside_setCell w ⟨C, i, none⟩ v
  obtain ⟨arr, h1, h2⟩ := hp
  have hb : (w.setCell ⟨C, i, none⟩ v).heap[C]? = some (.cells (arr.setIfInBounds i v) Payload.ety) := by
    rw [setCell_eq_setRow w C i arr _ (0, 0) _ h1, setRow_heap w C _ _ _ _ h1]
  refine ⟨hA.tape, hA.os, hA.output, hA.size, fun b hb' => hA.block b hb', fun _ => ⟨_, hb, by simpa using h2⟩, fun i' hi' => ?_⟩
  simp [World.cell?, hb, h1, Array.getElem?_setIfInBounds_ne (Ne.symm hi')]
theorem has_set (hp : PayAt C n w) (hj : i < n) (v : Value) : Has C i v (w.setCell ⟨C, i, none⟩ v) := by
  obtain ⟨arr, h1, h2⟩ := hp
  have hb : (w.setCell ⟨C, i, none⟩ v).heap[C]? = some (.cells (arr.setIfInBounds i v) Payload.ety) := by
    rw [setCell_eq_setRow w C i arr _ (0, 0) _ h1, setRow_heap w C _ _ _ _ h1]
  simp [Has, World.cell?, hb, h2, hj]
omit [Payload] in
theorem lowT_bk {Wg B : Nat} (hW : Wg < B) {e : Event} (h : Bk Wg e) : LowT B (MemAct.ofEvent e) := by
  intro y hy
  rcases h with h1 | h1 | ⟨a, wr, rfl, ha⟩
  · rw [ofEvent_loc_mark h1] at hy; cases hy
  · rw [ofEvent_loc_mark h1] at hy; cases hy
  · rw [ofEvent_cell] at hy
    simp only [MemAct.touch?, Option.some.injEq] at hy
    subst hy
    show a.block < B
    omega
end

section
variable [Payload] {P : Program} {ty : TypeId} {o Wg C n : Nat} {SB : Blocks} {Res : Nat → Blocks → Value → World → Prop} {K : Goroutine → World → Prop} {L0 : Nat} {w0 : World} {gs : Array Goroutine} {w w' : World} {sl : Option (Nat × Nat)} {j : Nat} {D : Nat → WX} {q : Nat → Nat} {tag : Tag} {f0 d0 : Nat} {rk : Rank} {FM OM : Blocks} {a : Goroutine} {t : Trace} {st sm : Int}

omit [Payload] in
/-- a worker's data laid anew with the same places. -/
theorem Sep.same (S : Sep Wg C SB j D FM OM w) {i : Nat} (hi : i < j) {x : WX} (hF : x.F = (D i).F) (hO : x.O = (D i).O) (hsz : w.heap.size ≤ w'.heap.size) : Sep Wg C SB j (upd D i x) FM OM w' :=
  S.stepW hi hsz (fun b hb => .inl (hF ▸ hb)) (fun b hb => .inl (hO ▸ hb)) (fun b hb => by rw [hF]; rw [hO] at hb; exact S.wO i hi b hb) (fun b hb => by rw [hF] at hb; have := (S.wF i hi b hb).1; omega)

/-- THE STORE. -/
theorem storeStep (hRes : ∀ i F v w w1, Res i F v w → Ext F w w1 → Res i F v w1) (ha : gs[0]? = some a) (hms : MS P ty Wg C n Res K tag f0 d0 rk FM OM a w) (hcom : PCom P ty o Wg C n SB Res j gs w t D q d0) (S : Sep Wg C SB j D FM OM w) (hjt : JT n tag j) (hk0 : Kept Wg C L0 w0 j D OM w)
    (hwg : WgAt ty Wg w st sm) (hmode : Mo j (xd D) tag st sm) {i : Nat} (hi : i < j) {g : Goroutine} (hg : gs[o + i]? = some g) (h9 : (D i).stage = 9) (hd : (D i).deaf = 0)
    (hs : AtStore P ty Wg C n Res i (D i).F (D i).O g w) :
    ∃ m₁ ops μ', runT P (crowd gs w sl) (o + i) = (.next m₁, ops) ∧ MLt (n + 1) μ' (psi n (Vc j (xd D)) tag + SSum j D, ranks n D rk, f0 + 2 * FSum j D + 2 * sumTo o q) ∧ PInv P ty o Wg C n SB Res K L0 w0 μ' m₁ (t ++ ops) := by
  obtain ⟨_, v, hres, hx⟩ := hs
  obtain ⟨g', hgo, m, hk⟩ := hx w (Ext.refl ..) hcom.pay ⟨_, _, hwg⟩
  have lW := S.lW
  have lC := S.lC
  have hA : AsideCell C n i w (w.setCell ⟨C, i, none⟩ v) := asideCell_set hcom.pay v
  let x : WX := ⟨7, m, 0, .leaf, (D i).F, (D i).O, v⟩
  have S' : Sep Wg C SB j (upd D i x) FM OM (w.setCell ⟨C, i, none⟩ v) := S.same hi (x := x) rfl rfl (by rw [hA.size]; exact Nat.le_refl _)
  have hwg' : WgAt ty Wg (w.setCell ⟨C, i, none⟩ v) st sm := hwg.of_block (hA.block Wg (Ne.symm S.hCW))
  have hext : ∀ {F : Blocks}, ¬ F C → Ext F w (w.setCell ⟨C, i, none⟩ v) := fun hn => ⟨by rw [hA.size]; exact Nat.le_refl _, fun b hb => hA.block b fun e => hn (e ▸ hb)⟩
  have hFC : ∀ i', i' < j → ¬ (D i').F C := fun i' hi' h => (S.wF i' hi' C h).2.2.1 rfl
  refine workerStep hRes ha hms hcom S hjt hk0 hi hg hgo (x := x) S' ⟨hext fun h => (S.mF C h).2.2.1 rfl, fun _ => ⟨_, _, hwg'⟩⟩
    (fun i' hi' hne => ⟨hext (hFC i' hi'), RW.of_cell hA hne S.hCW⟩)
    (.lib (.r0 hk) (hRes _ _ _ _ _ hres (hext (hFC i hi)))) (by rw [hA.size]; exact Nat.le_refl _) (fun _ h => h) (fun _ h => h) (fun _ h => .inl h) (fun _ h => .inl h) (fun e he y hy => ?_) (fun e he => ?_) (fun e he y hy => ?_)
    ?_ (fun h => absurd (show 7 ≤ 6 from h) (by decide)) (fun h => absurd (show 7 ≤ 6 from h) (by decide)) (hA.pay hcom.pay) hwg' (fun tag' ht _ => (hmode.congr fun a' _ => ?_).retag ht) ?_ (.inl ⟨by rw [h9]; exact (by decide : 7 < 9), ?_⟩)
  · simp only [List.mem_toArray, List.mem_singleton] at he
    subst he
    rw [ofEvent_cell0] at hy
    simp only [MemAct.touch?, Option.some.injEq] at hy
    subst hy
    exact ⟨rfl, .inr ⟨rfl, .inl ⟨i, hi, rfl, .inr rfl⟩⟩⟩
  · simp only [List.mem_toArray, List.mem_singleton] at he
    subst he
    simp
  · simp only [List.mem_toArray, List.mem_singleton] at he
    subst he
    rw [ofEvent_cell0] at hy
    simp only [MemAct.touch?, Option.some.injEq] at hy
    subst hy
    show C < _
    rw [hA.size]; exact lC
  · rw [hd]; rfl
  · by_cases e : a' = i
    · subst e; simp only [xd, upd_same, h9, x]; decide
    · simp only [xd]; rw [upd_ne D _ e]
  · refine hk0.stepW (x := x) (Nat.le_trans hk0.lW (Nat.le_of_lt lW)) (fun b hb => hA.block b fun e => ?_) (fun b hb => .inl hb) hA.tape hA.os hA.output (nb_of_block hA.block (let ⟨_, h, _⟩ := hA.pay hcom.pay; ⟨_, _, _, h⟩))
    have := hk0.lC; omega
  · simp only [xd, upd_same, h9, x]; simp [cnt]
end

end Go.Proofs.YtkpekiajdlolnaaGreat.Ph

/-
  THE PHASE, sixteenth text: A WORKER's STEPS IN THE LIBRARY (its release; Done).
-/
namespace Go.Proofs.YtkpekiajdlolnaaGreat.Ph
open Go Go.Conc Go.ConcN Go.Proofs.YtkpekiajdlolnaaGreat.Sim
open Go.ConcR (KK WgAt stA smA rd wr mk Payload DC0 g_of_ofEvents Bk bk_of_mute ofEvent_loc_mark ofEvent_cell)

theorem xd_upd (D : Nat → WX) (i : Nat) (x : WX) : xd (upd D i x) = upd (xd D) i ⟨if x.stage = 9 then 7 else x.stage, x.fuel, x.deaf⟩ := by
  funext k
  by_cases e : k = i
  · subst e; simp only [xd, upd_same]
  · rw [upd_ne (xd D) _ e]; simp only [xd]; rw [upd_ne D _ e]
theorem JT.bound {n j : Nat} {tag : Tag} (h : JT n tag j) : j + pendT tag ≤ n := by
  cases tag <;> simp only [JT, pendT] at h ⊢ <;> omega

section
variable {j i : Nat} {D : Nat → WD} {tag : Tag} {st sm : Int}
theorem Mo.same (hm : Mo j D tag st sm) (m' dd' : Nat) : Mo j (upd D i ⟨(D i).stage, m', dd'⟩) tag st sm :=
  hm.congr fun a _ => by
    by_cases e : a = i
    · subst e; rw [upd_same]
    · rw [upd_ne D _ e]
/-- A counted worker goes on to a stage at which it is still counted. -/
theorem Mo.counted (hm : Mo j D tag st sm) (hi : i < j) (h5 : 5 ≤ (D i).stage) {s' : Nat} (hs : s' = 6 ∨ s' = 5) (m' dd' : Nat) : Mo j (upd D i ⟨s', m', dd'⟩) tag st sm := by
  have hv : Vc j (upd D i ⟨s', m', dd'⟩) = Vc j D := by
    have := Vc_upd D (⟨s', m', dd'⟩ : WD) hi
    have c1 : cnt (D i) = 1 := by simp [cnt, h5]
    have c2 : cnt (⟨s', m', dd'⟩ : WD) = 1 := by rcases hs with rfl | rfl <;> simp [cnt]
    omega
  have ho : OpenSt j D → OpenSt j (upd D i ⟨s', m', dd'⟩) := fun h a ha => by
    by_cases e : a = i
    · subst e; rw [upd_same]; rcases hs with rfl | rfl <;> simp
    · rw [upd_ne D _ e]; exact h a ha
  cases hm with
  | opn h1 h2 h3 => rw [← hv]; exact .opn h1 (ho h2) (fun vs e => by rw [hv]; exact h3 vs e)
  | reg h1 h2 h3 => rw [← hv]; exact .reg h1 (ho h2) (by rw [hv]; exact h3)
  | last L h1 h2 h3 h4 =>
    by_cases e : i = L
    · subst e; omega
    · have := h4 i hi e; omega
  | sema _ h2 => have := h2 i hi; omega
  | fin h1 h2 => have := h2 i hi; omega
/-- Whoever stands at stage 4, 3 or 2 is THE LAST ONE. -/
theorem Mo.isLast (hm : Mo j D tag st sm) (hi : i < j) (h : (D i).stage = 4 ∨ (D i).stage = 3 ∨ (D i).stage = 2) :
    isW3T tag ∧ (∀ a, a < j → a ≠ i → (D a).stage = 1) ∧ st = (if (D i).stage = 2 then 0 else 1) ∧ sm = 0 := by
  cases hm with
  | opn _ h2 _ => have := h2 i hi; omega
  | reg _ h2 _ => have := h2 i hi; omega
  | last L h1 h2 h3 h4 =>
    by_cases e : i = L
    · subst e; exact ⟨h1, h4, rfl, rfl⟩
    · have := h4 i hi e; omega
  | sema _ h2 => have := h2 i hi; omega
  | fin _ h2 => have := h2 i hi; omega
end

section
variable [Payload] {P : Program} {ty : TypeId} {o Wg C n : Nat} {SB : Blocks} {Res : Nat → Blocks → Value → World → Prop} {K : Goroutine → World → Prop} {L0 : Nat} {w0 : World} {gs : Array Goroutine} {w w' : World} {sl : Option (Nat × Nat)} {j : Nat} {D : Nat → WX} {q : Nat → Nat} {tag : Tag} {f0 d0 : Nat} {rk : Rank} {FM OM : Blocks} {a : Goroutine} {t : Trace} {st sm : Int}

omit [Payload] in
theorem touchW_bk {x : Event} (h : Bk Wg x) {y : Touch} (hy : (MemAct.ofEvent x).touch? = some y) : y.loc.isMemory = true ∧ ShP Wg SB y.loc ∧ y.kind = .atomic := by
  rcases h with h1 | h1 | ⟨b, wr, rfl, hb⟩
  · rw [ofEvent_loc_mark h1] at hy; cases hy
  · rw [ofEvent_loc_mark h1] at hy; cases hy
  · rw [ofEvent_cell] at hy
    simp only [MemAct.touch?, Option.some.injEq] at hy
    subst hy
    exact ⟨rfl, ⟨b, rfl, .inr hb⟩, rfl⟩

set_option maxHeartbeats 3200000 in
/-- A WORKER's STEP IN THE LIBRARY. -/
theorem libStep (hRes : ∀ i F v w w1, Res i F v w → Ext F w w1 → Res i F v w1) (hn : n < 2147483648) (ha : gs[0]? = some a) (hms : MS P ty Wg C n Res K tag f0 d0 rk FM OM a w) (hcom : PCom P ty o Wg C n SB Res j gs w t D q d0) (S : Sep Wg C SB j D FM OM w) (hjt : JT n tag j) (hk0 : Kept Wg C L0 w0 j D OM w)
    (hwg : WgAt ty Wg w st sm) (hmode : Mo j (xd D) tag st sm) {i : Nat} (hi : i < j) {g : Goroutine} (hg : gs[o + i]? = some g) (hrun : g.status = .running)
    (hs : WSit P ty Wg C n none2 none2 0 (i + 1) (D i).val (D i).stage (D i).fuel (D i).deaf g w) (hres : Res i (D i).F (D i).val w) :
    ∃ m₁ ops μ', runT P (crowd gs w sl) (o + i) = (.next m₁, ops) ∧ MLt (n + 1) μ' (psi n (Vc j (xd D)) tag + SSum j D, ranks n D rk, f0 + 2 * FSum j D + 2 * sumTo o q) ∧ PInv P ty o Wg C n SB Res K L0 w0 μ' m₁ (t ++ ops) := by
  have lW := S.lW
  have lC := S.lC
  have hCW := S.hCW
  have hop := hcom.opos
  have hb := hjt.bound
  have hVj := Vc_le j (xd D)
  have kL := hk0.lW
  have kC := hk0.lC
  have mW : ¬ FM Wg := fun h => (S.mF Wg h).2.1 rfl
  have mC : ¬ FM C := fun h => (S.mF C h).2.2.1 rfl
  have wW : ∀ i', i' < j → ¬ (D i').F Wg := fun i' h' h => (S.wF i' h' Wg h).2.1 rfl
  have wC : ∀ i', i' < j → ¬ (D i').F C := fun i' h' h => (S.wF i' h' C h).2.2.1 rfl
  generalize hst : (D i).stage = s at hs
  generalize hfu : (D i).fuel = m at hs
  generalize hde : (D i).deaf = dd at hs
  have hdk : Deaf t (o + i) = dd := by rw [hcom.deafW i hi, hde]
  have xs9 : s ≠ 9 := by rintro rfl; cases hs
  have xst : (xd D i).stage = s := by simp only [xd, hst]; rw [if_neg xs9]
  have xfu : (xd D i).fuel = m := hfu
  have xde : (xd D i).deaf = dd := hde
  -- A STEP OF THE LIBRARY's BOOKKEEPING: at most the group's block turns
  have bookG : ∀ {g' : Goroutine} {w' : World} {es : Array Event} {s' m' dd' : Nat} {st' sm' : Int}, stepG P false g w = .go g' w' es → Aside Wg w w' → WgAt ty Wg w' st' sm' → (∀ e ∈ es, Bk Wg e) →
      (∀ jx e, es[jx]? = some e → (MemAct.ofEvent e).touch? = none ∨ 0 < deafBehind dd (es.extract 0 jx)) → WSit P ty Wg C n none2 none2 0 (i + 1) (D i).val s' m' dd' g' w' → deafBehind dd es = dd' → s ≤ 6 → s' ≤ 7 →
      (∀ tag', (tag' = tag ∨ (tag = .blk ∧ tag' = .sm)) → (mayWake P g = true → g'.status = .running → tag' ≠ .blk) → Mo j (upd (xd D) i ⟨s', m', dd'⟩) tag' st' sm') → ((s' < s ∧ cnt ⟨s', m', dd'⟩ ≤ cnt (xd D i)) ∨ (s' = s ∧ m' + 1 = m)) →
      ∃ m₁ ops μ', runT P (crowd gs w sl) (o + i) = (.next m₁, ops) ∧ MLt (n + 1) μ' (psi n (Vc j (xd D)) tag + SSum j D, ranks n D rk, f0 + 2 * FSum j D + 2 * sumTo o q) ∧ PInv P ty o Wg C n SB Res K L0 w0 μ' m₁ (t ++ ops) := by
    intro g' w' es s' m' dd' st' sm' hgo hAs hwg' hbk hd hs' hdd h6 h7 hmode' hlt
    obtain ⟨cs, hcs1, hcs2⟩ := hcom.pay
    have hsz : w.heap.size ≤ w'.heap.size := by rw [hAs.size]; exact Nat.le_refl _
    have hext : ∀ {F : Blocks}, ¬ F Wg → Ext F w w' := fun hn => ⟨hsz, fun b hb => hAs.block b fun e => hn (e ▸ hb)⟩
    let x : WX := ⟨s', m', dd', (D i).rank, (D i).F, (D i).O, (D i).val⟩
    have ex : xd (upd D i x) = upd (xd D) i ⟨s', m', dd'⟩ := by rw [xd_upd]; show upd (xd D) i (⟨if s' = 9 then 7 else s', m', dd'⟩ : WD) = _; rw [if_neg (by omega)]
    refine workerStep hRes ha hms hcom S hjt hk0 hi hg hgo (x := x) (S.same hi rfl rfl hsz) ⟨hext mW, fun _ => ⟨_, _, hwg'⟩⟩ (fun i' hi' hne => ⟨hext (wW i' hi'), RW.of_wg hAs ⟨_, _, hwg'⟩ hCW⟩)
      (.lib hs' (hRes _ _ _ _ _ hres (hext (wW i hi)))) hsz (fun _ h => h) (fun _ h => h) (fun _ h => .inl h) (fun _ h => .inl h)
      (fun e he y hy => let ⟨h1, h2, h3⟩ := touchW_bk (hbk e he) hy; ⟨h1, .inl ⟨h2, h3⟩⟩) (fun e he => (norel_of_Bk hbk) e he) (fun e he => lowT_bk (by omega) (hbk e he))
      (by rw [hde]; exact hdd) (fun _ => let ⟨r, hr⟩ := hcom.rel i hi (by omega); ⟨r, hr.book hdk _ _ hbk hd⟩) (fun _ => (cell_of_block (hAs.block C hCW) i).trans (hcom.has i hi (by omega))) ⟨cs, (hAs.block C hCW).trans hcs1, hcs2⟩ hwg'
      (fun tag' ht hw => by rw [ex]; exact hmode' tag' ht hw) (hk0.stepW (by omega) (fun b hb => hAs.block b (by omega)) (fun _ h => .inl h) hAs.tape hAs.os hAs.output (nb_of_block hAs.block ⟨_, _, _, hwg'⟩)) ?_
    rcases hlt with ⟨h1, h2⟩ | ⟨h1, h2⟩
    · refine .inl ⟨by rw [hst]; exact h1, ?_⟩
      rw [ex, upd_same]; exact h2
    · exact .inr (.inr ⟨by rw [hst]; exact h1, rfl, by rw [hfu]; exact h2⟩)
  have book : ∀ {g' : Goroutine} {w' : World} {es : Array Event} {s' m' dd' : Nat} {st' sm' : Int}, stepG P false g w = .go g' w' es → Aside Wg w w' → WgAt ty Wg w' st' sm' → (∀ e ∈ es, Bk Wg e) →
      (∀ jx e, es[jx]? = some e → (MemAct.ofEvent e).touch? = none ∨ 0 < deafBehind dd (es.extract 0 jx)) → WSit P ty Wg C n none2 none2 0 (i + 1) (D i).val s' m' dd' g' w' → deafBehind dd es = dd' → s ≤ 6 → s' ≤ 7 →
      Mo j (upd (xd D) i ⟨s', m', dd'⟩) tag st' sm' → ((s' < s ∧ cnt ⟨s', m', dd'⟩ ≤ cnt (xd D i)) ∨ (s' = s ∧ m' + 1 = m)) →
      ∃ m₁ ops μ', runT P (crowd gs w sl) (o + i) = (.next m₁, ops) ∧ MLt (n + 1) μ' (psi n (Vc j (xd D)) tag + SSum j D, ranks n D rk, f0 + 2 * FSum j D + 2 * sumTo o q) ∧ PInv P ty o Wg C n SB Res K L0 w0 μ' m₁ (t ++ ops) :=
    fun hgo hAs hwg' hbk hd hs' hdd h6 h7 hmode' hlt => bookG hgo hAs hwg' hbk hd hs' hdd h6 h7 (fun _ ht _ => hmode'.retag ht) hlt
  -- AN IDLE STEP BEHIND THE RELEASE: nothing turns, nothing is listed
  have idle : ∀ {g' : Goroutine} {m' : Nat}, stepG P false g w = .go g' w #[] → WSit P ty Wg C n none2 none2 0 (i + 1) (D i).val s m' dd g' w → m' + 1 = m → s ≤ 6 →
      ∃ m₁ ops μ', runT P (crowd gs w sl) (o + i) = (.next m₁, ops) ∧ MLt (n + 1) μ' (psi n (Vc j (xd D)) tag + SSum j D, ranks n D rk, f0 + 2 * FSum j D + 2 * sumTo o q) ∧ PInv P ty o Wg C n SB Res K L0 w0 μ' m₁ (t ++ ops) := by
    intro g' m' hgo hs' hm h6
    exact book hgo (.refl Wg w) hwg (by simp) (by simp) hs' rfl h6 (by omega) (by have := hmode.same (i := i) m' dd; rwa [xst] at this) (.inr ⟨rfl, hm⟩)
  cases hs with
  | r0 h =>
    rcases Goes.cases h with hstop | ⟨m', rfl, hstep⟩
    · obtain ⟨_, hhas, g', hgo, m₂, hk⟩ := hstop w (RW.refl w)
      let x : WX := ⟨6, m₂, 0, (D i).rank, (D i).F, (D i).O, (D i).val⟩
      have ex : xd (upd D i x) = upd (xd D) i ⟨6, m₂, 0⟩ := by rw [xd_upd]; rfl
      refine workerStep hRes ha hms hcom S hjt hk0 hi hg hgo (x := x) (S.same hi rfl rfl (Nat.le_refl _)) (rm_refl w) (fun i' hi' hne => ⟨Ext.refl .., RW.refl w⟩)
        (.lib (.k1 hk) hres) (Nat.le_refl _) (fun _ h => h) (fun _ h => h) (fun _ h => .inl h) (fun _ h => .inl h)
        (fun e he y hy => by simp at he; subst he; cases hy) (fun e he => by simp at he; subst he; simp [mk]) (fun e he y hy => by simp at he; subst he; cases hy)
        (by rw [hde]; rfl) (fun _ => ⟨t.size, RelBy.new hdk _ _⟩) (fun _ => by simpa using hhas) hcom.pay hwg
        (fun tag' ht hw => by rw [ex]; exact (hmode.counted hi (by omega) (.inl rfl) _ _).retag ht) (hk0.stepW (by omega) (fun _ _ => rfl) (fun _ h => .inl h) rfl rfl rfl id) (.inl ⟨by rw [hst]; exact (by decide : 6 < 7), ?_⟩)
      rw [ex, upd_same]
      simp [cnt, xst]
    · obtain ⟨g', w', es, hgo, ⟨hac, hev⟩, hg'⟩ := hstep w (RW.refl w)
      simp only [Nat.add_sub_cancel] at hac
      have hsz : w.heap.size ≤ w'.heap.size := by rw [hac.size]; exact Nat.le_refl _
      have hext : ∀ {F : Blocks}, ¬ F C → Ext F w w' := fun hn => ⟨hsz, fun b hb => hac.block b fun e => hn (e ▸ hb)⟩
      have hwg' : WgAt ty Wg w' st sm := hwg.of_block (hac.block Wg (Ne.symm hCW))
      have tch : ∀ e ∈ es, ∀ y, (MemAct.ofEvent e).touch? = some y → ∃ b, y.loc = .cell b ∧ b.block = Wg ∧ y.kind = .atomic := fun e he y hy => by
        rcases ((hev e he).1 (0 : Nat) "").2 y hy with ⟨⟨b, h1, h2⟩, h3, h4⟩ | h1 | ⟨h1, _⟩
        · refine ⟨b, h1, h2, ?_⟩
          cases hk : y.kind with
          | atomic => rfl
          | plain => exact absurd hk h3
          | said => exact absurd hk h4
        · exact h1.elim
        · exact h1.elim
      let x : WX := ⟨7, m', 0, (D i).rank, (D i).F, (D i).O, (D i).val⟩
      have ex : xd (upd D i x) = upd (xd D) i ⟨7, m', 0⟩ := by rw [xd_upd]; rfl
      refine workerStep hRes ha hms hcom S hjt hk0 hi hg hgo (x := x) (S.same hi rfl rfl hsz) ⟨hext mC, fun _ => ⟨_, _, hwg'⟩⟩ (fun i' hi' hne => ⟨hext (wC i' hi'), RW.of_cell hac hne hCW⟩)
        (.lib (.r0 hg') (hRes _ _ _ _ _ hres (hext (wC i hi)))) hsz (fun _ h => h) (fun _ h => h) (fun _ h => .inl h) (fun _ h => .inl h)
        (fun e he y hy => ?_) (fun e he => (hev e he).2.2.2) (fun e he y hy => ?_)
        (by rw [hde]; exact deafBehind_idle (fun e he => ⟨(hev e he).2.1, (hev e he).2.2.1⟩) 0) (fun h => absurd (show 7 ≤ 6 from h) (by decide)) (fun h => absurd (show 7 ≤ 6 from h) (by decide)) (hac.pay hcom.pay) hwg'
        (fun tag' ht hw => by rw [ex]; exact Mo.retag (by have := hmode.same (i := i) m' 0; rwa [xst] at this) ht) (hk0.stepW (by omega) (fun b hb => hac.block b (by omega)) (fun _ h => .inl h) hac.tape hac.os hac.output (nb_of_block hac.block (let ⟨_, h, _⟩ := hac.pay hcom.pay; ⟨_, _, _, h⟩)))
        (.inr (.inr ⟨hst.symm, rfl, hfu.symm⟩))
      · obtain ⟨b, h1, h2, h3⟩ := tch e he y hy
        rw [h1]
        exact ⟨rfl, .inl ⟨⟨b, rfl, .inr h2⟩, h3⟩⟩
      · obtain ⟨b, h1, h2, h3⟩ := tch e he y hy
        rw [h1]
        show b.block < _
        omega
  | k1 h =>
    rcases Goes.cases h with hstop | ⟨m', rfl, hstep⟩
    · obtain ⟨_, g', hgo, m₂, hk⟩ := hstop w (RW.refl w)
      exact book hgo (.refl Wg w) hwg (by intro e he; simp at he; subst he; exact .inl rfl) (by intro jx e he; exact .inl (by have := Array.mem_of_getElem? he; simp at this; subst this; rfl)) (.d1 hk) rfl (by omega) (by omega)
        (hmode.counted hi (by omega) (.inr rfl) _ _) (.inl ⟨by omega, by simp [cnt, xst]⟩)
    · obtain ⟨g', w', es, hgo, ⟨rfl, rfl⟩, hg'⟩ := hstep w (RW.refl w)
      exact idle hgo (.k1 hg') rfl (by omega)
  | d1 h =>
    rcases Goes.cases h with hstop | ⟨m', rfl, hstep⟩
    · obtain ⟨_, hall⟩ := hstop w (RW.refl w)
      have hc1 : cnt (xd D i) = 1 := by simp [cnt, xst]
      have hV1 : 1 ≤ Vc j (xd D) := by have := le_sumTo (f := fun x => cnt (xd D x)) hi; simp only [Vc]; omega
      have bk2 : ∀ e ∈ #[rd (stA Wg), wr (stA Wg)], Bk Wg e := by intro e he; simp at he; rcases he with rfl | rfl <;> exact bk_cell _ _ rfl
      have df2 : ∀ jx e, (#[rd (stA Wg), wr (stA Wg)] : Array Event)[jx]? = some e → (MemAct.ofEvent e).touch? = none ∨ 0 < deafBehind 1 ((#[rd (stA Wg), wr (stA Wg)] : Array Event).extract 0 jx) := by
        intro jx e he
        match jx, he with
        | 0, _ => exact .inr (by simp [deafBehind])
        | 1, _ => exact .inr (by simp [deafBehind, rd])
        | jx + 2, he => simp at he
      have hq0 : ∀ q, cnt (⟨1, q, 1⟩ : WD) = 0 := fun _ => rfl
      have opq : ∀ q, OpenSt j (xd D) → OpenSt j (upd (xd D) i ⟨1, q, 1⟩) := fun q h a ha => by
        by_cases e : a = i
        · subst e; rw [upd_same]; simp
        · rw [upd_ne (xd D) _ e]; exact h a ha
      cases hmode with
      | opn h1 h2 h3 =>
        obtain ⟨v, hv⟩ : ∃ v, Vc j (xd D) + pendT tag = v + 1 := ⟨Vc j (xd D) + pendT tag - 1, by omega⟩
        rw [hv] at hwg
        have hw1 : WgAt ty Wg w (((v : Nat) + 1) * KK + ((0 : Nat) : Int)) 0 := by simpa using hwg
        obtain ⟨g', hgo, _, hq⟩ := hall v 0 (by omega) (by omega) hw1
        obtain ⟨q, hq⟩ := hq (by omega)
        have hv' : Vc j (upd (xd D) i ⟨1, q, 1⟩) + pendT tag = v := by have := Vc_upd (xd D) (⟨1, q, 1⟩ : WD) hi; have := hq0 q; omega
        refine book hgo (aside_setCell w (stA Wg) _) (hwg.setSt _) bk2 df2 (.quit hq) rfl (by omega) (by omega) ?_ (.inl ⟨by omega, by simp [cnt]⟩)
        have e : ((v : Nat) : Int) * KK + ((0 : Nat) : Int) = ((Vc j (upd (xd D) i ⟨1, q, 1⟩) + pendT tag : Nat) : Int) * KK := by rw [hv']; simp
        rw [e]
        exact .opn h1 (opq q h2) (fun vs ev => by have := h3 vs ev; omega)
      | reg h1 h2 h3 =>
        obtain ⟨v, hv⟩ : ∃ v, Vc j (xd D) = v + 1 := ⟨Vc j (xd D) - 1, by omega⟩
        rw [hv] at hwg
        have hp : pendT tag = 0 := by cases tag <;> first | rfl | exact h1.elim
        have hw1 : WgAt ty Wg w (((v : Nat) + 1) * KK + ((1 : Nat) : Int)) 0 := by simpa using hwg
        obtain ⟨g', hgo, hl, hq⟩ := hall v 1 (by omega) (by omega) hw1
        by_cases hv0 : v = 0
        · subst hv0
          obtain ⟨m₂, hk⟩ := hl ⟨rfl, rfl⟩
          refine book hgo (aside_setCell w (stA Wg) _) (hwg.setSt _) bk2 df2 (.d2 hk) rfl (by omega) (by omega) ?_ (.inl ⟨by omega, by simp [cnt]⟩)
          have hoth : ∀ a, a < j → a ≠ i → (xd D a).stage = 1 := fun a ha e => by
            have c0 := others_uncounted hi hv hc1 a ha e
            have := h2 a ha
            simp only [cnt] at c0
            split at c0 <;> omega
          have := Mo.last (j := j) (D := upd (xd D) i ⟨4, m₂, 1⟩) (tag := tag) i h1 hi (by rw [upd_same]; simp) (fun a ha e => by rw [upd_ne (xd D) _ e]; exact hoth a ha e)
          rw [upd_same] at this
          simpa using this
        · obtain ⟨q, hq⟩ := hq (by omega)
          have hv' : Vc j (upd (xd D) i ⟨1, q, 1⟩) = v := by have := Vc_upd (xd D) (⟨1, q, 1⟩ : WD) hi; have := hq0 q; omega
          refine book hgo (aside_setCell w (stA Wg) _) (hwg.setSt _) bk2 df2 (.quit hq) rfl (by omega) (by omega) ?_ (.inl ⟨by omega, by simp [cnt]⟩)
          have e : ((v : Nat) : Int) * KK + ((1 : Nat) : Int) = ((Vc j (upd (xd D) i ⟨1, q, 1⟩) : Nat) : Int) * KK + 1 := by rw [hv']; simp
          rw [e]
          exact .reg h1 (opq q h2) (by omega)
      | last L _ h2 h3 h4 =>
        by_cases e : i = L
        · subst e; omega
        · have := h4 i hi e; omega
      | sema _ h2 => have := h2 i hi; omega
      | fin _ h2 => have := h2 i hi; omega
    · obtain ⟨g', w', es, hgo, ⟨rfl, rfl⟩, hg'⟩ := hstep w (RW.refl w)
      exact idle hgo (.d1 hg') rfl (by omega)
  | d2 h =>
    rcases Goes.cases h with hstop | ⟨m', rfl, hstep⟩
    · obtain ⟨_, hx⟩ := hstop w (RW.refl w)
      obtain ⟨hW3, hoth, rfl, rfl⟩ := hmode.isLast hi (by omega)
      simp only [xst] at hwg
      obtain ⟨g', hgo, m₂, hk⟩ := hx (by simpa using hwg)
      refine book hgo (.refl Wg w) hwg (by intro e he; simp at he; subst he; exact bk_cell _ _ rfl) (by intro jx e he; match jx, he with | 0, _ => exact .inr (by simp [deafBehind]) | jx + 1, he => simp at he) (.d3 hk) rfl (by omega) (by omega) ?_ (.inl ⟨by omega, by simp [cnt]⟩)
      have := Mo.last (j := j) (D := upd (xd D) i ⟨3, m₂, 1⟩) (tag := tag) i hW3 hi (by rw [upd_same]; simp) (fun a ha e => by rw [upd_ne (xd D) _ e]; exact hoth a ha e)
      rw [upd_same] at this
      simpa using this
    · obtain ⟨g', w', es, hgo, ⟨rfl, rfl⟩, hg'⟩ := hstep w (RW.refl w)
      exact idle hgo (.d2 hg') rfl (by omega)
  | d3 h =>
    rcases Goes.cases h with hstop | ⟨m', rfl, hstep⟩
    · obtain ⟨_, hx⟩ := hstop w (RW.refl w)
      obtain ⟨hW3, hoth, rfl, rfl⟩ := hmode.isLast hi (by omega)
      simp only [xst] at hwg
      obtain ⟨g', hgo, m₂, hk⟩ := hx (by simpa using hwg)
      refine book hgo (aside_setCell w (stA Wg) _) (hwg.setSt 0) (by intro e he; simp at he; subst he; exact bk_cell _ _ rfl) (by intro jx e he; match jx, he with | 0, _ => exact .inr (by simp [deafBehind]) | jx + 1, he => simp at he) (.d4 hk) rfl (by omega) (by omega) ?_ (.inl ⟨by omega, by simp [cnt]⟩)
      have := Mo.last (j := j) (D := upd (xd D) i ⟨2, m₂, 1⟩) (tag := tag) i hW3 hi (by rw [upd_same]; simp) (fun a ha e => by rw [upd_ne (xd D) _ e]; exact hoth a ha e)
      rw [upd_same] at this
      simpa using this
    · obtain ⟨g', w', es, hgo, ⟨rfl, rfl⟩, hg'⟩ := hstep w (RW.refl w)
      exact idle hgo (.d3 hg') rfl (by omega)
  | d4 h =>
    rcases Goes.cases h with hstop | ⟨m', rfl, hstep⟩
    · obtain ⟨_, hmw, hx⟩ := hstop w (RW.refl w)
      obtain ⟨hW3, hoth, rfl, rfl⟩ := hmode.isLast hi (by omega)
      simp only [xst] at hwg
      obtain ⟨g', hgo, q, hq⟩ := hx (by simpa using hwg)
      have hrun' : g'.status = .running := by
        cases q with
        | zero => exact absurd hq.2 (by decide)
        | succ q => exact hq.elim (fun x => absurd x.2 (by decide)) (fun x => x.1)
      refine bookG hgo (aside_setCell w (smA Wg) _) (hwg.setSm 1) (es := semEvents (smA Wg)) bk_sem ?_ (.quit hq) (by simp [deafBehind, semEvents]) (by omega) (by omega) ?_ (.inl ⟨by omega, by simp [cnt]⟩)
      · intro jx e he
        match jx, he with
        | 0, he => simp [semEvents] at he; subst he; exact .inl rfl
        | 1, _ => exact .inr (by simp [deafBehind, semEvents])
        | 2, _ => exact .inr (by simp [deafBehind, semEvents])
        | 3, he => simp [semEvents] at he; subst he; exact .inl rfl
        | jx + 4, he => simp [semEvents] at he
      · intro tag' ht hw
        have hnb := hw hmw hrun'
        have e3 : tag' = .sm ∨ tag' = .ws := by
          rcases ht with rfl | ⟨_, rfl⟩
          · cases tag' <;> first | exact .inl rfl | exact .inr rfl | exact hW3.elim | exact absurd rfl hnb
          · exact .inl rfl
        have hq' : AllQuit j (upd (xd D) i ⟨1, q, 1⟩) := fun a ha => by
          by_cases e : a = i
          · subst e; rw [upd_same]
          · rw [upd_ne (xd D) _ e]; exact hoth a ha e
        simp only [if_true]
        exact .sema e3.symm hq'
    · obtain ⟨g', w', es, hgo, ⟨rfl, rfl⟩, hg'⟩ := hstep w (RW.refl w)
      exact idle hgo (.d4 hg') rfl (by omega)
  | quit h =>
    cases m with
    | zero => rw [h.1] at hrun; cases hrun
    | succ q =>
      rcases h with ⟨hf, _⟩ | ⟨_, g', es, hmute, hstep, hq⟩
      · rw [hf] at hrun; cases hrun
      · have hbk : ∀ e ∈ es, Bk Wg e := fun e he => bk_of_mute (hmute e he)
        have hno : ∀ jx e, es[jx]? = some e → (MemAct.ofEvent e).touch? = none ∨ 0 < deafBehind dd (es.extract 0 jx) := fun jx e he => .inl (touch_mute (hmute e (Array.mem_of_getElem? he)))
        exact book (hstep w) (.refl Wg w) hwg hbk hno (.quit hq) rfl (by omega) (by omega) (by have := hmode.same (i := i) q (deafBehind dd es); rwa [xst] at this) (.inr ⟨rfl, rfl⟩)
end

end Go.Proofs.YtkpekiajdlolnaaGreat.Ph

/-
  THE PHASE, seventeenth text: THE STARTER's STEPS (all but the go statement and the last).
-/
namespace Go.Proofs.YtkpekiajdlolnaaGreat.Ph
open Go Go.Conc Go.ConcN Go.Proofs.YtkpekiajdlolnaaGreat.Sim
open Go.ConcN.Gen (ev0_said_read ev0_said_write)
open Go.ConcR (KK WgAt stA smA rd wr mk Payload DC0 g_of_ofEvents Bk bk_of_mute ofEvent_loc_mark ofEvent_cell)

theorem MLt.lt1 {N : Nat} {a b c : Mea} (h : MLt N a b) (k : b.1 < c.1) : MLt N a c := by
  obtain ⟨a1, a2⟩ := a
  obtain ⟨b1, b2⟩ := b
  obtain ⟨c1, c2⟩ := c
  simp only at k
  rcases Prod.lex_def.1 h with h | ⟨h, _⟩
  · simp only at h; exact Prod.Lex.left _ _ (by omega)
  · simp only at h; exact Prod.Lex.left _ _ (by omega)

section
variable [Payload] (P : Program) (ty : TypeId) (o Wg C n : Nat) (SB : Blocks) (Res : Nat → Blocks → Value → World → Prop) (K : Goroutine → World → Prop) (L0 : Nat) (w0 : World)
/-- a step of goroutine k's leads on. -/
def Out (gs : Array Goroutine) (w : World) (sl : Option (Nat × Nat)) (t : Trace) (k : Nat) (μ : Mea) : Prop :=
  ∃ m₁ ops μ', runT P (crowd gs w sl) k = (.next m₁, ops) ∧ MLt (n + 1) μ' μ ∧ PInv P ty o Wg C n SB Res K L0 w0 μ' m₁ (t ++ ops)
end

section
variable {j : Nat} {D : Nat → WD} {tag tag' : Tag} {st sm : Int}
theorem Mo.reopen (hm : Mo j D tag st sm) (h : isOpenT tag) (h' : isOpenT tag') (hp : pendT tag' = pendT tag) (hw : ∀ vs, tag' = .cs vs → Vc j D ≤ vs ∧ 1 ≤ vs) : Mo j D tag' st sm := by
  cases hm with
  | opn _ h2 _ => rw [← hp]; exact .opn h' h2 hw
  | reg h1 _ _ => cases tag <;> first | exact h.elim | exact h1.elim
  | last L h1 _ _ _ => cases tag <;> first | exact h.elim | exact h1.elim
  | sema h1 _ => rcases h1 with rfl | rfl <;> exact h.elim
  | fin h1 _ => cases tag <;> first | exact h.elim | exact h1.elim
theorem Mo.open_inv (hm : Mo j D tag st sm) (h : isOpenT tag) : OpenSt j D ∧ st = ((Vc j D + pendT tag : Nat) : Int) * KK ∧ sm = 0 ∧ ∀ vs, tag = .cs vs → Vc j D ≤ vs ∧ 1 ≤ vs := by
  cases hm with
  | opn _ h2 h3 => exact ⟨h2, rfl, rfl, h3⟩
  | reg h1 _ _ => cases tag <;> first | exact h.elim | exact h1.elim
  | last L h1 _ _ _ => cases tag <;> first | exact h.elim | exact h1.elim
  | sema h1 _ => rcases h1 with rfl | rfl <;> exact h.elim
  | fin h1 _ => cases tag <;> first | exact h.elim | exact h1.elim
theorem Mo.fin_inv (hm : Mo j D tag st sm) (h : isFinT tag) : AllQuit j D ∧ st = 0 ∧ sm = 0 := by
  cases hm with
  | opn h1 _ _ => cases tag <;> first | exact h.elim | exact h1.elim
  | reg h1 _ _ => cases tag <;> first | exact h.elim | exact h1.elim
  | last L h1 _ _ _ => cases tag <;> first | exact h.elim | exact h1.elim
  | sema h1 _ => rcases h1 with rfl | rfl <;> exact h.elim
  | fin _ h2 => exact ⟨h2, rfl, rfl⟩
end

section
variable [Payload] {P : Program} {ty : TypeId} {o Wg C n : Nat} {SB : Blocks} {Res : Nat → Blocks → Value → World → Prop} {K : Goroutine → World → Prop} {L0 : Nat} {w0 : World} {gs : Array Goroutine} {w w' : World} {sl : Option (Nat × Nat)} {j : Nat} {D : Nat → WX} {q : Nat → Nat} {tag tag' : Tag} {f0 f' d0 : Nat} {rk rk' : Rank} {FM OM FM' OM' : Blocks} {a a' : Goroutine} {t : Trace} {st sm st' sm' : Int} {es : Array Event}

omit [Payload] in
theorem Sep.none (S : Sep Wg C SB j D FM OM w) : Sep Wg C SB j D FM (fun _ => False) w := ⟨S.wF, S.wO, S.apart, S.mF, fun _ h => h.elim, S.lW, S.lC, S.lS, S.hCW, S.sW, S.sC⟩
omit [Payload] in
theorem Sep.size (S : Sep Wg C SB j D FM OM w) (h : w.heap.size ≤ w'.heap.size) : Sep Wg C SB j D FM OM w' :=
  ⟨fun i hi b hb => let x := S.wF i hi b hb; ⟨Nat.lt_of_lt_of_le x.1 h, x.2⟩, S.wO, S.apart, fun b hb => let x := S.mF b hb; ⟨Nat.lt_of_lt_of_le x.1 h, x.2⟩, S.mO, Nat.lt_of_lt_of_le S.lW h, Nat.lt_of_lt_of_le S.lC h, fun b hb => Nat.lt_of_lt_of_le (S.lS b hb) h, S.hCW, S.sW, S.sC⟩
omit [Payload] in
theorem Kept.none (h : Kept Wg C L0 w0 j D OM w) : Kept Wg C L0 w0 j D (fun _ => False) w := ⟨h.keep, h.lW, h.lC, h.lO, fun _ h => h.elim, h.tape, h.os, h.output, h.nb⟩
omit [Payload] in
theorem Kept.wg (h : Kept Wg C L0 w0 j D OM w) (hA : Aside Wg w w') (hg : WgAt ty Wg w' st' sm') : Kept Wg C L0 w0 j D OM w' :=
  ⟨fun b hb => (hA.block b (by have := h.lW; omega)).trans (h.keep b hb), h.lW, h.lC, h.lO, h.lM, hA.tape.trans h.tape, hA.os.trans h.os, hA.output.trans h.output, fun x => nb_of_block hA.block ⟨_, _, _, hg⟩ (h.nb x)⟩

omit [Payload] in
theorem ok0P_of_touch {fn : FuncId} {pos : String} (h : ∀ e ∈ es, ∀ y, (MemAct.ofEvent e).touch? = some y → ∃ b, y.loc = .cell b ∧ b.block = Wg ∧ y.kind ≠ .plain) : ∀ op ∈ MemOp.ofEvents 0 fn pos es, Ok0 (ShP Wg SB) (OwnD o C j D) (RdD o j D) (o - 1 + j) op := by
  intro op hop
  obtain ⟨e, he, rfl⟩ := Go.Conc.mem_ofEvents hop
  refine ⟨rfl, fun y hy => ?_⟩
  obtain ⟨b, h1, h2, h3⟩ := h e he y hy
  exact .inl ⟨h1 ▸ ⟨b, rfl, .inr h2⟩, h3⟩
omit [Payload] in
theorem touch_bk (h : ∀ e ∈ es, Bk Wg e) : ∀ e ∈ es, ∀ y, (MemAct.ofEvent e).touch? = some y → ∃ b, y.loc = .cell b ∧ b.block = Wg ∧ y.kind ≠ .plain := by
  intro e he y hy
  rcases h e he with h1 | h1 | ⟨b, wr, rfl, hb⟩
  · rw [ofEvent_loc_mark h1] at hy; cases hy
  · rw [ofEvent_loc_mark h1] at hy; cases hy
  · rw [ofEvent_cell] at hy
    simp only [MemAct.touch?, Option.some.injEq] at hy
    subst hy
    exact ⟨b, rfl, hb, by simp⟩

/-- A STEP OF THE LIBRARY's BOOKKEEPING, by the starter: at most the group's block turns. -/
theorem bookM (hRes : ∀ i F v w w1, Res i F v w → Ext F w w1 → Res i F v w1) (ha : gs[0]? = some a) (hcom : PCom P ty o Wg C n SB Res j gs w t D q d0) (S : Sep Wg C SB j D FM OM w) (hk0 : Kept Wg C L0 w0 j D OM w)
    (hgo : stepG P true a w = .go a' w' es) (hAs : Aside Wg w w') (hwg' : WgAt ty Wg w' st' sm') (htc : ∀ e ∈ es, ∀ y, (MemAct.ofEvent e).touch? = some y → ∃ b, y.loc = .cell b ∧ b.block = Wg ∧ y.kind ≠ .plain) (hnr : ∀ e ∈ es, e.loc ≠ .mark (.release (stA Wg)))
    (hms' : MS P ty Wg C n Res K tag' f' (deafBehind d0 es) .leaf FM (fun _ => False) a' w') (hmode' : Mo j (xd D) tag' st' sm') (hjt : JT n tag' j)
    (hlt : psi n (Vc j (xd D)) tag' < psi n (Vc j (xd D)) tag ∨ (psi n (Vc j (xd D)) tag' = psi n (Vc j (xd D)) tag ∧ rk = .leaf ∧ f' < f0)) :
    Out P ty o Wg C n SB Res K L0 w0 gs w sl t 0 (psi n (Vc j (xd D)) tag + SSum j D, ranks n D rk, f0 + 2 * FSum j D + 2 * sumTo o q) := by
  obtain ⟨cs, hc1, hc2⟩ := hcom.pay
  have hsz : w.heap.size ≤ w'.heap.size := by rw [hAs.size]; exact Nat.le_refl _
  have lW := S.lW
  refine callerStep hRes ha hcom S hgo hms' (S.none.size hsz) (fun i hi => ⟨⟨hsz, fun b hb => hAs.block b (S.wF i hi b hb).2.1⟩, RW.of_wg hAs ⟨_, _, hwg'⟩ S.hCW⟩) hsz (ok0P_of_touch htc)
    (fun e he y hy => by obtain ⟨b, h1, _⟩ := htc e he y hy; rw [h1]; rfl) hnr (fun e he y hy => by obtain ⟨b, h1, h2, _⟩ := htc e he y hy; rw [h1]; show b.block < _; omega) ⟨cs, (hAs.block C S.hCW).trans hc1, hc2⟩ hwg' hmode' hjt (hk0.none.wg hAs hwg') ?_
  rcases hlt with h | ⟨h1, h2, h3⟩
  · exact .inl h
  · exact .inr (.inr ⟨h1, h2.symm, h3⟩)

/-- AN IDLE STEP OF THE STARTER's. -/
theorem idleM (hRes : ∀ i F v w w1, Res i F v w → Ext F w w1 → Res i F v w1) (ha : gs[0]? = some a) (hcom : PCom P ty o Wg C n SB Res j gs w t D q d0) (S : Sep Wg C SB j D FM OM w) (hk0 : Kept Wg C L0 w0 j D OM w)
    (hwg : WgAt ty Wg w st sm) (hmode : Mo j (xd D) tag st sm) (hjt : JT n tag j)
    (hgo : stepG P true a w = .go a' w' es) (hD : DC0 w w' es) (hms' : MS P ty Wg C n Res K tag f' d0 .leaf FM (fun _ => False) a' w') (hf : f' < f0) :
    Out P ty o Wg C n SB Res K L0 w0 gs w sl t 0 (psi n (Vc j (xd D)) tag + SSum j D, ranks n D .leaf, f0 + 2 * FSum j D + 2 * sumTo o q) := by
  obtain ⟨rfl, rfl⟩ := hD
  exact bookM hRes ha hcom S hk0 hgo (.refl Wg _) hwg (by simp) (by simp) hms' hmode hjt (.inr ⟨rfl, rfl, hf⟩)

omit [Payload] in
theorem nr_bk (h : ∀ e ∈ es, Bk Wg e) : ∀ e ∈ es, e.loc ≠ .mark (.release (stA Wg)) := fun e he => (norel_of_Bk h) e he
omit [Payload] in
theorem touch_said {m : Mark} (hm : m = .read (smA Wg) ∨ m = .write (smA Wg)) : ∀ e ∈ #[mk m], ∀ y, (MemAct.ofEvent e).touch? = some y → ∃ b, y.loc = .cell b ∧ b.block = Wg ∧ y.kind ≠ .plain := by
  intro e he y hy
  simp only [List.mem_toArray, List.mem_singleton] at he
  subst he
  rcases hm with rfl | rfl <;>
    (simp only [mk, MemAct.ofEvent, MemAct.touch?, Option.some.injEq] at hy
     subst hy
     exact ⟨smA Wg, rfl, rfl, by simp⟩)
omit [Payload] in
theorem nr_mk {m : Mark} (hm : m ≠ .release (stA Wg)) : ∀ e ∈ #[mk m], e.loc ≠ .mark (.release (stA Wg)) := by
  intro e he
  simp only [List.mem_toArray, List.mem_singleton] at he
  subst he
  intro h
  simp only [mk, Loc.mark.injEq] at h
  exact hm h

section
variable (hRes : ∀ i F v w w1, Res i F v w → Ext F w w1 → Res i F v w1) (hn : n < 2147483648) (ha : gs[0]? = some a) (hk0 : Kept Wg C L0 w0 j D OM w) (S : Sep Wg C SB j D FM OM w) (hwg : WgAt ty Wg w st sm)
include hRes hn ha hk0 S hwg

omit hn in
theorem kdSStep {r : Nat} (hcom : PCom P ty o Wg C n SB Res j gs w t D q 0) (hmode : Mo j (xd D) (.kdS r) st sm) (hjt : JT n (.kdS r) j) (hr : r < n)
    (h : Goes P true (RM ty Wg FM) DC0 (AtMk P .disable (MG P ty Wg FM (AtAdd P ty Wg FM (MG P ty Wg FM (AtGoM P ty Wg C n Res (n - (r + 1)) FM fun g' w => WG P true (Scr P ty Wg C n Res K r) FM (fun _ => False) g' w))))) f0 a w) :
    Out P ty o Wg C n SB Res K L0 w0 gs w sl t 0 (psi n (Vc j (xd D)) (.kdS r) + SSum j D, ranks n D .leaf, f0 + 2 * FSum j D + 2 * sumTo o q) := by
  rcases Goes.cases h with hstop | ⟨m', rfl, hstep⟩
  · obtain ⟨_, a', hgo, m₂, hk⟩ := hstop w (rm_refl w)
    exact bookM (tag' := .ad r) hRes ha hcom S hk0 hgo (.refl Wg _) hwg (touch_bk bk_dis) (nr_bk bk_dis) (.ad hr hk) (hmode.reopen trivial trivial rfl (by simp)) hjt (.inl (by simp only [psi]; omega))
  · obtain ⟨a', w', es, hgo, hD, hg'⟩ := hstep w (rm_refl w)
    exact idleM hRes ha hcom S hk0 hwg hmode hjt hgo hD (.kdS hr hg') (by omega)

theorem adStep {r : Nat} (hcom : PCom P ty o Wg C n SB Res j gs w t D q 1) (hmode : Mo j (xd D) (.ad r) st sm) (hjt : JT n (.ad r) j) (hr : r < n)
    (h : Goes P true (RM ty Wg FM) DC0 (AtAdd P ty Wg FM (MG P ty Wg FM (AtGoM P ty Wg C n Res (n - (r + 1)) FM fun g' w => WG P true (Scr P ty Wg C n Res K r) FM (fun _ => False) g' w))) f0 a w) :
    Out P ty o Wg C n SB Res K L0 w0 gs w sl t 0 (psi n (Vc j (xd D)) (.ad r) + SSum j D, ranks n D .leaf, f0 + 2 * FSum j D + 2 * sumTo o q) := by
  have hVj := Vc_le j (xd D)
  have hjn := hjt.le
  rcases Goes.cases h with hstop | ⟨m', rfl, hstep⟩
  · obtain ⟨_, hall⟩ := hstop w (rm_refl w)
    obtain ⟨ho, rfl, rfl, _⟩ := hmode.open_inv trivial
    have hj1 : j + r + 1 = n := hjt
    obtain ⟨a', hgo, hk⟩ := hall (Vc j (xd D)) (by omega) (by simpa [pendT] using hwg)
    rcases hk with ⟨_, m₂, hk⟩ | ⟨_, m₂, hk⟩
    · refine bookM (tag' := .rs r) hRes ha hcom S hk0 hgo (aside_setCell w (stA Wg) _) (hwg.setSt _) (touch_bk bk_rw) (nr_bk bk_rw) (.rs hr hk) ?_ hjt (.inl (by simp only [psi]; omega))
      have e : (((Vc j (xd D) : Nat) : Int) + 1) * KK = ((Vc j (xd D) + pendT (.rs r) : Nat) : Int) * KK := by simp [pendT]
      rw [e]
      exact .opn trivial ho (by simp)
    · refine bookM (tag' := .en r) hRes ha hcom S hk0 hgo (aside_setCell w (stA Wg) _) (hwg.setSt _) (touch_bk bk_rw) (nr_bk bk_rw) (.en hr hk) ?_ hjt (.inl (by simp only [psi]; omega))
      have e : (((Vc j (xd D) : Nat) : Int) + 1) * KK = ((Vc j (xd D) + pendT (.en r) : Nat) : Int) * KK := by simp [pendT]
      rw [e]
      exact .opn trivial ho (by simp)
  · obtain ⟨a', w', es, hgo, hD, hg'⟩ := hstep w (rm_refl w)
    exact idleM hRes ha hcom S hk0 hwg hmode hjt hgo hD (.ad hr hg') (by omega)

omit hn in
theorem rsStep {r : Nat} (hcom : PCom P ty o Wg C n SB Res j gs w t D q 1) (hmode : Mo j (xd D) (.rs r) st sm) (hjt : JT n (.rs r) j) (hr : r < n)
    (h : Goes P true (RM ty Wg FM) DC0 (AtMk P (.read (smA Wg)) (MG P ty Wg FM (AtMk P .enable (MG P ty Wg FM (AtGoM P ty Wg C n Res (n - (r + 1)) FM fun g' w => WG P true (Scr P ty Wg C n Res K r) FM (fun _ => False) g' w))))) f0 a w) :
    Out P ty o Wg C n SB Res K L0 w0 gs w sl t 0 (psi n (Vc j (xd D)) (.rs r) + SSum j D, ranks n D .leaf, f0 + 2 * FSum j D + 2 * sumTo o q) := by
  rcases Goes.cases h with hstop | ⟨m', rfl, hstep⟩
  · obtain ⟨_, a', hgo, m₂, hk⟩ := hstop w (rm_refl w)
    exact bookM (tag' := .en r) hRes ha hcom S hk0 hgo (.refl Wg _) hwg (touch_said (.inl rfl)) (nr_mk (by simp)) (.en hr hk) (hmode.reopen trivial trivial rfl (by simp)) hjt (.inl (by simp only [psi]; omega))
  · obtain ⟨a', w', es, hgo, hD, hg'⟩ := hstep w (rm_refl w)
    exact idleM hRes ha hcom S hk0 hwg hmode hjt hgo hD (.rs hr hg') (by omega)

omit hn in
theorem enStep {r : Nat} (hcom : PCom P ty o Wg C n SB Res j gs w t D q 1) (hmode : Mo j (xd D) (.en r) st sm) (hjt : JT n (.en r) j) (hr : r < n)
    (h : Goes P true (RM ty Wg FM) DC0 (AtMk P .enable (MG P ty Wg FM (AtGoM P ty Wg C n Res (n - (r + 1)) FM fun g' w => WG P true (Scr P ty Wg C n Res K r) FM (fun _ => False) g' w))) f0 a w) :
    Out P ty o Wg C n SB Res K L0 w0 gs w sl t 0 (psi n (Vc j (xd D)) (.en r) + SSum j D, ranks n D .leaf, f0 + 2 * FSum j D + 2 * sumTo o q) := by
  rcases Goes.cases h with hstop | ⟨m', rfl, hstep⟩
  · obtain ⟨_, a', hgo, m₂, hk⟩ := hstop w (rm_refl w)
    exact bookM (tag' := .gos r) hRes ha hcom S hk0 hgo (.refl Wg _) hwg (touch_bk bk_en) (nr_bk bk_en) (.gos hr hk) (hmode.reopen trivial trivial rfl (by simp)) hjt (.inl (by simp only [psi]; omega))
  · obtain ⟨a', w', es, hgo, hD, hg'⟩ := hstep w (rm_refl w)
    exact idleM hRes ha hcom S hk0 hwg hmode hjt hgo hD (.en hr hg') (by omega)

omit hn in
theorem kdStep {A : Goroutine → World → Prop} (hA1 : ∀ g w, A g w → g.status = .running) (hA2 : ∀ g w, A g w → MG P ty Wg FM (AtLd P ty Wg FM A K) g w) (hcom : PCom P ty o Wg C n SB Res j gs w t D q 0) (hmode : Mo j (xd D) .kd st sm) (hjt : JT n .kd j)
    (h : Goes P true (RM ty Wg FM) DC0 (AtMk P .disable (MG P ty Wg FM A)) f0 a w) :
    Out P ty o Wg C n SB Res K L0 w0 gs w sl t 0 (psi n (Vc j (xd D)) .kd + SSum j D, ranks n D .leaf, f0 + 2 * FSum j D + 2 * sumTo o q) := by
  have hVj := Vc_le j (xd D)
  have hjn := hjt.le
  rcases Goes.cases h with hstop | ⟨m', rfl, hstep⟩
  · obtain ⟨_, a', hgo, m₂, hk⟩ := hstop w (rm_refl w)
    exact bookM (tag' := .anch) hRes ha hcom S hk0 hgo (.refl Wg _) hwg (touch_bk bk_dis) (nr_bk bk_dis) (.anch hA1 hA2 hk) (hmode.reopen trivial trivial rfl (by simp)) hjt (.inl (by simp only [psi]; omega))
  · obtain ⟨a', w', es, hgo, hD, hg'⟩ := hstep w (rm_refl w)
    exact idleM hRes ha hcom S hk0 hwg hmode hjt hgo hD (.kd hA1 hA2 hg') (by omega)

theorem ldStep {A : Goroutine → World → Prop} (hA1 : ∀ g w, A g w → g.status = .running) (hA2 : ∀ g w, A g w → MG P ty Wg FM (AtLd P ty Wg FM A K) g w) (hcom : PCom P ty o Wg C n SB Res j gs w t D q 1) (hmode : Mo j (xd D) .ld st sm) (hjt : JT n .ld j)
    (h : Goes P true (RM ty Wg FM) DC0 (AtLd P ty Wg FM A K) f0 a w) :
    Out P ty o Wg C n SB Res K L0 w0 gs w sl t 0 (psi n (Vc j (xd D)) .ld + SSum j D, ranks n D .leaf, f0 + 2 * FSum j D + 2 * sumTo o q) := by
  have hVj := Vc_le j (xd D)
  have hjn := hjt.le
  rcases Goes.cases h with hstop | ⟨m', rfl, hstep⟩
  · obtain ⟨_, hall⟩ := hstop w (rm_refl w)
    obtain ⟨ho, rfl, rfl, _⟩ := hmode.open_inv trivial
    obtain ⟨a', hgo, h0, hne⟩ := hall (Vc j (xd D)) (by omega) (by simpa [pendT] using hwg)
    by_cases hv : Vc j (xd D) = 0
    · obtain ⟨m₂, hk⟩ := h0 hv
      refine bookM (tag' := .en2) hRes ha hcom S hk0 hgo (.refl Wg _) hwg (touch_bk bk_rd) (nr_bk bk_rd) (.en2 hk) ?_ hjt (.inl (by simp only [psi]; omega))
      have e : ((Vc j (xd D) + pendT .ld : Nat) : Int) * KK = 0 := by rw [hv]; simp [pendT]
      rw [e]
      exact .fin trivial (allQuit_of ho hv)
    · obtain ⟨m₂, hk⟩ := hne hv
      exact bookM (tag' := .cs (Vc j (xd D))) hRes ha hcom S hk0 hgo (.refl Wg _) hwg (touch_bk bk_rd) (nr_bk bk_rd) (.cs hA1 hA2 hk) (hmode.reopen trivial trivial rfl (fun vs e => by cases e; omega)) hjt (.inl (by simp only [psi]; omega))
  · obtain ⟨a', w', es, hgo, hD, hg'⟩ := hstep w (rm_refl w)
    exact idleM hRes ha hcom S hk0 hwg hmode hjt hgo hD (.ld hA1 hA2 hg') (by omega)

theorem anchStep {A : Goroutine → World → Prop} (hA1 : ∀ g w, A g w → g.status = .running) (hA2 : ∀ g w, A g w → MG P ty Wg FM (AtLd P ty Wg FM A K) g w) (hcom : PCom P ty o Wg C n SB Res j gs w t D q 1) (hmode : Mo j (xd D) .anch st sm) (hjt : JT n .anch j)
    (h : Goes P true (RM ty Wg FM) DC0 A f0 a w) :
    Out P ty o Wg C n SB Res K L0 w0 gs w sl t 0 (psi n (Vc j (xd D)) .anch + SSum j D, ranks n D .leaf, f0 + 2 * FSum j D + 2 * sumTo o q) := by
  rcases Goes.cases h with hstop | ⟨m', rfl, hstep⟩
  · obtain ⟨m₂, hk⟩ := hA2 a w (hstop w (rm_refl w))
    obtain ⟨m₁, ops, μ', h1, h2, h3⟩ := ldStep (sl := sl) hRes hn ha hk0 S hwg hA1 hA2 hcom (hmode.reopen trivial trivial rfl (by simp)) hjt hk
    exact ⟨m₁, ops, μ', h1, h2.lt1 (by simp only [psi]; omega), h3⟩
  · obtain ⟨a', w', es, hgo, hD, hg'⟩ := hstep w (rm_refl w)
    exact idleM hRes ha hcom S hk0 hwg hmode hjt hgo hD (.anch hA1 hA2 hg') (by omega)

theorem csStep {A : Goroutine → World → Prop} {vs : Nat} (hA1 : ∀ g w, A g w → g.status = .running) (hA2 : ∀ g w, A g w → MG P ty Wg FM (AtLd P ty Wg FM A K) g w) (hcom : PCom P ty o Wg C n SB Res j gs w t D q 1) (hmode : Mo j (xd D) (.cs vs) st sm) (hjt : JT n (.cs vs) j)
    (h : Goes P true (RM ty Wg FM) DC0 (AtCas P ty Wg FM A K vs) f0 a w) :
    Out P ty o Wg C n SB Res K L0 w0 gs w sl t 0 (psi n (Vc j (xd D)) (.cs vs) + SSum j D, ranks n D .leaf, f0 + 2 * FSum j D + 2 * sumTo o q) := by
  have hVj := Vc_le j (xd D)
  have hjn := hjt.le
  rcases Goes.cases h with hstop | ⟨m', rfl, hstep⟩
  · obtain ⟨_, hall⟩ := hstop w (rm_refl w)
    obtain ⟨ho, rfl, rfl, hw2⟩ := hmode.open_inv trivial
    obtain ⟨hle, h1⟩ := hw2 vs rfl
    obtain ⟨hhit, hmiss⟩ := hall (Vc j (xd D)) (by omega) (by simpa [pendT] using hwg)
    by_cases e : Vc j (xd D) = vs
    · obtain ⟨a', hgo, m₂, hk⟩ := hhit e
      exact bookM (tag' := .ws) hRes ha hcom S hk0 hgo (aside_setCell w (stA Wg) _) (hwg.setSt _) (touch_bk bk_rw) (nr_bk bk_rw) (.ws hk) (.reg trivial ho (by omega)) hjt (.inl (by simp only [psi]; omega))
    · obtain ⟨a', hgo, m₂, hk⟩ := hmiss e
      exact bookM (tag' := .anch) hRes ha hcom S hk0 hgo (.refl Wg _) hwg (touch_bk bk_rd) (nr_bk bk_rd) (.anch hA1 hA2 hk) (hmode.reopen trivial trivial rfl (by simp)) hjt (.inl (by simp only [psi]; omega))
  · obtain ⟨a', w', es, hgo, hD, hg'⟩ := hstep w (rm_refl w)
    exact idleM hRes ha hcom S hk0 hwg hmode hjt hgo hD (.cs hA1 hA2 hg') (by omega)

omit hn in
theorem wsStep (hcom : PCom P ty o Wg C n SB Res j gs w t D q 1) (hmode : Mo j (xd D) .ws st sm) (hjt : JT n .ws j)
    (h : Goes P true (RM ty Wg FM) DC0 (AtMk P (.write (smA Wg)) (MG P ty Wg FM (AtSem P ty Wg FM K))) f0 a w) :
    Out P ty o Wg C n SB Res K L0 w0 gs w sl t 0 (psi n (Vc j (xd D)) .ws + SSum j D, ranks n D .leaf, f0 + 2 * FSum j D + 2 * sumTo o q) := by
  rcases Goes.cases h with hstop | ⟨m', rfl, hstep⟩
  · obtain ⟨_, a', hgo, m₂, hk⟩ := hstop w (rm_refl w)
    refine bookM (tag' := .sm) hRes ha hcom S hk0 hgo (.refl Wg _) hwg (touch_said (.inr rfl)) (nr_mk (by simp)) (.sm hk) ?_ hjt (.inl (by simp only [psi]; omega))
    cases hmode with
    | opn h1 _ _ => exact h1.elim
    | reg h1 h2 h3 => exact .reg trivial h2 h3
    | last L h1 h2 h3 h4 => exact .last L trivial h2 h3 h4
    | sema h1 h2 => exact .sema (.inr rfl) h2
    | fin h1 _ => exact h1.elim
  · obtain ⟨a', w', es, hgo, hD, hg'⟩ := hstep w (rm_refl w)
    exact idleM hRes ha hcom S hk0 hwg hmode hjt hgo hD (.ws hg') (by omega)
end
end

end Go.Proofs.YtkpekiajdlolnaaGreat.Ph

/-
  THE PHASE, eighteenth text: the semaphore; out of Wait; THE go STATEMENT; the starter's own walk.
-/
namespace Go.Proofs.YtkpekiajdlolnaaGreat.Ph
open Go Go.Conc Go.ConcN Go.Proofs.YtkpekiajdlolnaaGreat.Sim
open Go.ConcR (KK WgAt stA smA rd wr mk Payload DC0 g_of_ofEvents Bk bk_of_mute ofEvent_loc_mark ofEvent_cell)

section
variable [Payload] {P : Program} {ty : TypeId} {o Wg C n : Nat} {SB : Blocks} {Res : Nat → Blocks → Value → World → Prop} {K : Goroutine → World → Prop} {L0 : Nat} {w0 : World} {gs : Array Goroutine} {w w' : World} {sl : Option (Nat × Nat)} {j : Nat} {D : Nat → WX} {q : Nat → Nat} {tag tag' : Tag} {f0 f' d0 : Nat} {rk rk' : Rank} {FM OM FM' OM' : Blocks} {a a' : Goroutine} {t : Trace} {st sm st' sm' : Int} {es : Array Event}
variable (hRes : ∀ i F v w w1, Res i F v w → Ext F w w1 → Res i F v w1) (ha : gs[0]? = some a) (hk0 : Kept Wg C L0 w0 j D OM w) (S : Sep Wg C SB j D FM OM w) (hwg : WgAt ty Wg w st sm)
include hRes ha hk0 S hwg

theorem smStep (hcom : PCom P ty o Wg C n SB Res j gs w t D q 1) (hmode : Mo j (xd D) .sm st sm) (hjt : JT n .sm j)
    (h : Goes P true (RM ty Wg FM) DC0 (AtSem P ty Wg FM K) f0 a w) :
    Out P ty o Wg C n SB Res K L0 w0 gs w sl t 0 (psi n (Vc j (xd D)) .sm + SSum j D, ranks n D .leaf, (f0 + 1) + 2 * FSum j D + 2 * sumTo o q) := by
  rcases Goes.cases h with hstop | ⟨m', rfl, hstep⟩
  · obtain ⟨_, hoff, hblk, htake⟩ := hstop w (rm_refl w)
    have nil : ∀ e ∈ (#[] : Array Event), ∀ y, (MemAct.ofEvent e).touch? = some y → ∃ b, y.loc = .cell b ∧ b.block = Wg ∧ y.kind ≠ .plain := by simp
    cases hmode with
    | opn h1 _ _ => exact h1.elim
    | reg h1 h2 h3 => exact bookM (tag' := .blk) (f' := 0) hRes ha hcom S hk0 (hblk ⟨_, hwg⟩) (.refl Wg w) hwg nil (by simp) (.blk hstop) (.reg trivial h2 h3) hjt (.inr ⟨rfl, rfl, by omega⟩)
    | last L h1 h2 h3 h4 => exact bookM (tag' := .blk) (f' := 0) hRes ha hcom S hk0 (hblk ⟨_, hwg⟩) (.refl Wg w) hwg nil (by simp) (.blk hstop) (.last L trivial h2 h3 h4) hjt (.inr ⟨rfl, rfl, by omega⟩)
    | sema h1 h2 =>
      obtain ⟨a', hgo, m₂, hk⟩ := htake hwg
      exact bookM (tag' := .l2) hRes ha hcom S hk0 hgo (aside_setCell w (smA Wg) _) (hwg.setSm 0) (touch_bk bk_sem) (nr_bk bk_sem) (.l2 hk) (.fin trivial h2) hjt (.inl (by simp only [psi]; omega))
    | fin h1 _ => exact h1.elim
  · obtain ⟨a', w', es, hgo, hD, hg'⟩ := hstep w (rm_refl w)
    obtain ⟨rfl, rfl⟩ := hD
    exact bookM (tag' := .sm) (f' := m' + 1) hRes ha hcom S hk0 hgo (.refl Wg _) hwg (by simp) (by simp) (.sm hg') hmode hjt (.inr ⟨rfl, rfl, by omega⟩)

theorem l2Step (hcom : PCom P ty o Wg C n SB Res j gs w t D q 1) (hmode : Mo j (xd D) .l2 st sm) (hjt : JT n .l2 j)
    (h : Goes P true (RM ty Wg FM) DC0 (AtLd2 P ty Wg FM K) f0 a w) :
    Out P ty o Wg C n SB Res K L0 w0 gs w sl t 0 (psi n (Vc j (xd D)) .l2 + SSum j D, ranks n D .leaf, f0 + 2 * FSum j D + 2 * sumTo o q) := by
  rcases Goes.cases h with hstop | ⟨m', rfl, hstep⟩
  · obtain ⟨_, hx⟩ := hstop w (rm_refl w)
    obtain ⟨hq, rfl, rfl⟩ := hmode.fin_inv trivial
    obtain ⟨a', hgo, m₂, hk⟩ := hx hwg
    exact bookM (tag' := .en2) hRes ha hcom S hk0 hgo (.refl Wg _) hwg (touch_bk bk_rd) (nr_bk bk_rd) (.en2 hk) (.fin trivial hq) hjt (.inl (by simp only [psi]; omega))
  · obtain ⟨a', w', es, hgo, hD, hg'⟩ := hstep w (rm_refl w)
    exact idleM hRes ha hcom S hk0 hwg hmode hjt hgo hD (.l2 hg') (by omega)

theorem en2Step (hcom : PCom P ty o Wg C n SB Res j gs w t D q 1) (hmode : Mo j (xd D) .en2 st sm) (hjt : JT n .en2 j)
    (h : Goes P true (RM ty Wg FM) DC0 (AtMk P .enable (MG P ty Wg FM (AtMk P (.acquire (stA Wg)) K))) f0 a w) :
    Out P ty o Wg C n SB Res K L0 w0 gs w sl t 0 (psi n (Vc j (xd D)) .en2 + SSum j D, ranks n D .leaf, f0 + 2 * FSum j D + 2 * sumTo o q) := by
  rcases Goes.cases h with hstop | ⟨m', rfl, hstep⟩
  · obtain ⟨_, a', hgo, m₂, hk⟩ := hstop w (rm_refl w)
    obtain ⟨hq, rfl, rfl⟩ := hmode.fin_inv trivial
    exact bookM (tag' := .acq) hRes ha hcom S hk0 hgo (.refl Wg _) hwg (touch_bk bk_en) (nr_bk bk_en) (.acq hk) (.fin trivial hq) hjt (.inl (by simp only [psi]; omega))
  · obtain ⟨a', w', es, hgo, hD, hg'⟩ := hstep w (rm_refl w)
    exact idleM hRes ha hcom S hk0 hwg hmode hjt hgo hD (.en2 hg') (by omega)

/-- THE go STATEMENT. -/
theorem goStep {r : Nat} (hcom : PCom P ty o Wg C n SB Res j gs w t D q 0) (hmode : Mo j (xd D) (.gos r) st sm) (hjt : JT n (.gos r) j) (hr : r < n)
    (h : Goes P true (RM ty Wg FM) DC0 (AtGoM P ty Wg C n Res (n - (r + 1)) FM fun g' w => WG P true (Scr P ty Wg C n Res K r) FM (fun _ => False) g' w) f0 a w) :
    Out P ty o Wg C n SB Res K L0 w0 gs w sl t 0 (psi n (Vc j (xd D)) (.gos r) + SSum j D, ranks n D .leaf, f0 + 2 * FSum j D + 2 * sumTo o q) := by
  rcases Goes.cases h with hstop | ⟨m', rfl, hstep⟩
  · obtain ⟨_, a', child, hsp, hcr, hwk0, rk2, hnext⟩ := hstop w (rm_refl w)
    have hj1 : j + r + 1 = n := hjt
    have ej : n - (r + 1) = j := by omega
    rw [ej] at hwk0
    obtain ⟨F, hF, rkw, hwk⟩ := hwk0 hcom.pay
    obtain ⟨ho, rfl, rfl, _⟩ := hmode.open_inv trivial
    have hop := hcom.opos
    let x : WX := ⟨9, 0, 0, rkw, F, fun _ => False, .bool false⟩
    have S' : Sep Wg C SB (j + 1) (upd D j x) FM (fun _ => False) w := by
      refine ⟨fun i hi b hb => ?_, fun i hi b hb => ?_, fun i1 i2 h1 h2 hne b hb hb2 => ?_, fun b hb => ?_, fun _ h => h.elim, S.lW, S.lC, S.lS, S.hCW, S.sW, S.sC⟩
      · by_cases e : i = j
        · subst e; rw [upd_same] at hb; have := S.mF b (hF b hb); exact ⟨this.1, this.2.1, this.2.2.1, this.2.2.2.1⟩
        · rw [upd_ne D _ e] at hb; exact S.wF i (by omega) b hb
      · by_cases e : i = j
        · subst e; rw [upd_same] at hb; exact hb.elim
        · rw [upd_ne D _ e] at hb ⊢; exact S.wO i (by omega) b hb
      · by_cases e : i1 = j
        · subst e; rw [upd_same] at hb; exact hb.elim
        · rw [upd_ne D _ e] at hb
          by_cases e2 : i2 = j
          · subst e2; rw [upd_same] at hb2; exact (S.mF b (hF b hb2)).2.2.2.2 i1 (by omega) hb
          · rw [upd_ne D _ e2] at hb2; exact S.apart i1 i2 (by omega) (by omega) hne b hb hb2
      · have := S.mF b hb
        refine ⟨this.1, this.2.1, this.2.2.1, this.2.2.2.1, fun i hi hO => ?_⟩
        by_cases e : i = j
        · subst e; rw [upd_same] at hO; exact hO.elim
        · rw [upd_ne D _ e] at hO; exact this.2.2.2.2 i (by omega) hO
    have hrun' := runT_crowd_spawn (P := P) (sl := sl) (i := 0) ha (by simpa using hsp)
    rw [hcom.size] at hrun'
    have hcom' := hcom.spawn S' (a' := a') (child := child) rfl rfl (.own (by rw [show (9 : Nat) = 9 from rfl]) rfl rfl hwk) (fn := a.frame.fn) (pos := a.frame.place) (fn' := child.frame.fn) (pos' := a.frame.place)
    have ex : xd (upd D j x) = upd (xd D) j ⟨7, 0, 0⟩ := by rw [xd_upd]; rfl
    have eV : Vc (j + 1) (xd (upd D j x)) = Vc j (xd D) + 1 := by
      rw [ex]
      simp only [Vc, sumTo, upd_same]
      rw [sumTo_upd_out (xd D) _ cnt (Nat.le_refl _)]; rfl
    have eS : SSum (j + 1) (upd D j x) = SSum j D + 9 := by
      simp only [SSum, sumTo, upd_same]
      rw [sumTo_upd_out D _ WX.stage (Nat.le_refl _)]
    have ho' : OpenSt (j + 1) (xd (upd D j x)) := fun i hi => by
      rw [ex]
      by_cases e : i = j
      · subst e; rw [upd_same]; simp
      · rw [upd_ne (xd D) _ e]; exact ho i (by omega)
    have ha' : ((gs.setIfInBounds 0 a').push child)[0]? = some a' := by
      have hs0 : 0 < (gs.setIfInBounds 0 a').size := by simp [hcom.size]; omega
      rw [Array.getElem?_push_lt hs0]
      simp
    have hk1 : Kept Wg C L0 w0 (j + 1) (upd D j x) (fun _ => False) w := by
      refine ⟨hk0.keep, hk0.lW, hk0.lC, fun i hi b hb => ?_, fun _ h => h.elim, hk0.tape, hk0.os, hk0.output, hk0.nb⟩
      by_cases e : i = j
      · subst e; rw [upd_same] at hb; exact hb.elim
      · rw [upd_ne D _ e] at hb; exact hk0.lO i (by omega) b hb
    refine ⟨_, _, _, hrun', ?_, _, w, sl, j + 1, upd D j x, q, .wg r, 0, 0, rk2, FM, fun _ => False, a', _, _, rfl, ha', .wg (by omega) hnext, ?_, S', hwg, ?_, (by show j + 1 + r = n; omega), hk1, rfl⟩
    · refine Prod.Lex.left _ _ ?_
      rw [eS]
      simp only [psi]
      omega
    · exact hcom'
    · have e : ((Vc j (xd D) + pendT (.gos r) : Nat) : Int) * KK = ((Vc (j + 1) (xd (upd D j x)) + pendT (.wg r) : Nat) : Int) * KK := by rw [eV]; simp [pendT]
      rw [e]
      exact .opn trivial ho' (by simp)
  · obtain ⟨a', w', es, hgo, hD, hg'⟩ := hstep w (rm_refl w)
    exact idleM hRes ha hcom S hk0 hwg hmode hjt hgo hD (.gos hr hg') (by omega)

/-- THE STARTER's OWN WALK. -/
theorem wgStep {r : Nat} {f : World → Rank} (hcom : PCom P ty o Wg C n SB Res j gs w t D q 0) (hmode : Mo j (xd D) (.wg r) st sm) (hjt : JT n (.wg r) j) (hr : r ≤ n)
    (h : WGo P true (Scr P ty Wg C n Res K r) (.node f) FM OM a w) :
    Out P ty o Wg C n SB Res K L0 w0 gs w sl t 0 (psi n (Vc j (xd D)) (.wg r) + SSum j D, ranks n D (.node f), 0 + 2 * FSum j D + 2 * sumTo o q) := by
  obtain ⟨FM', OM', a', w', es, hgo, ok, hw'⟩ := h.2 w (Ext.refl ..)
  have lW := S.lW
  have lC := S.lC
  have nO : ∀ b, OM b → b ≠ Wg ∧ b ≠ C := fun b hb => ⟨(S.mF b (S.mO b hb).1).2.1, (S.mF b (S.mO b hb).1).2.2.1⟩
  have hW : w'.heap[Wg]? = w.heap[Wg]? := ok.keep Wg lW fun h => (nO Wg h).1 rfl
  have hC : w'.heap[C]? = w.heap[C]? := ok.keep C lC fun h => (nO C h).2 rfl
  have hwg' : WgAt ty Wg w' st sm := by unfold WgAt at *; rw [hW]; exact hwg
  have hsz := ok.size
  have S' : Sep Wg C SB j D FM' OM' w' := by
    refine ⟨fun i hi b hb => let x := S.wF i hi b hb; ⟨Nat.lt_of_lt_of_le x.1 hsz, x.2⟩, S.wO, S.apart, fun b hb => ?_, fun b hb => ⟨ok.own b hb, fun i hi hf => ?_⟩, Nat.lt_of_lt_of_le S.lW hsz, Nat.lt_of_lt_of_le S.lC hsz, fun b hb => Nat.lt_of_lt_of_le (S.lS b hb) hsz, S.hCW, S.sW, S.sC⟩
    · refine ⟨ok.low b hb, ?_⟩
      rcases ok.new b hb with h | h
      · exact (S.mF b h).2
      · exact ⟨by omega, by omega, fun hs => by have := S.lS b hs; omega, fun i hi ho => by have := (S.wF i hi b (S.wO i hi b ho)).1; omega⟩
    · rcases ok.newO b hb with h | h
      · exact (S.mO b h).2 i hi hf
      · have := (S.wF i hi b hf).1; omega
  have hms' : MS P ty Wg C n Res K (.wg r) 0 (deafBehind 0 es) (f w) FM' OM' a' w' := by
    rw [deafBehind_idle (fun e he => ⟨(evF_facts (Wg := Wg) (ok.ev e he) ok.low).1, (evF_facts (Wg := Wg) (ok.ev e he) ok.low).2.1⟩) 0]
    exact .wg hr hw'
  refine callerStep hRes ha hcom S hgo (tag' := .wg r) (f' := 0) hms' S'
    (fun i hi => ⟨⟨hsz, fun b hb => ok.keep b (S.wF i hi b hb).1 fun ho => (S.mO b ho).2 i hi hb⟩, rw_same hW hC⟩) hsz (fun op hop => ?_) (fun e he y hy => (touch_evF (ok.ev e he) hy).1)
    (fun e he => (evF_facts (Wg := Wg) (ok.ev e he) ok.low).2.2.1) (fun e he => lowT_of (evF_facts (Wg := Wg) (ok.ev e he) ok.low).2.2.2) ?_ hwg' hmode hjt ?_ (.inr (.inl ⟨rfl, ⟨w, rfl⟩⟩))
  · obtain ⟨e, he, rfl⟩ := Go.Conc.mem_ofEvents hop
    refine ⟨rfl, fun y hy => .inr ?_⟩
    obtain ⟨h1, h2, h3, h4⟩ := touch_evF (ok.ev e he) hy
    have hnb : ∀ {b : Nat}, FM' b → b ≠ Wg ∧ b ≠ C ∧ ¬ SB b ∧ ∀ i, i < j → ¬ (D i).O b := fun hb => (S'.mF _ hb).2
    have inF : ∀ {B : Blocks} {l : Loc}, locIn B l → ∃ b, B b ∧ ((∃ a, l = .cell a ∧ a.block = b) ∨ l = .obj b) := by
      intro B l hl
      cases l with
      | cell a => exact ⟨_, hl, .inl ⟨a, rfl, rfl⟩⟩
      | obj r => exact ⟨_, hl, .inr rfl⟩
      | _ => exact hl.elim
    have same : ∀ {b b' : Nat} {l : Loc}, ((∃ a : Addr, l = .cell a ∧ a.block = b) ∨ l = .obj b) → ((∃ a : Addr, l = .cell a ∧ a.block = b') ∨ l = .obj b') → b = b' := by
      intro b b' l h1 h2
      rcases h1 with ⟨a, rfl, rfl⟩ | rfl
      · rcases h2 with ⟨a', e, rfl⟩ | e
        · cases e; rfl
        · cases e
      · rcases h2 with ⟨a', e, rfl⟩ | e
        · cases e
        · cases e; rfl
    obtain ⟨b, hb, hl⟩ := inF h3
    have hb' := hnb hb
    refine ⟨?_, fun k k1 kj => ?_, fun hwr k k1 kj => ?_⟩
    · rintro ⟨c, hc, hs⟩
      rw [hc] at hl
      rcases hl with ⟨a1, e, rfl⟩ | e
      · cases e
        rcases hs with hs | hs
        · exact hb'.2.2.1 hs
        · exact hb'.1 hs
      · cases e
    · rintro ⟨i, hi, rfl, h5⟩
      rcases h5 with h5 | h5
      · obtain ⟨b', hb2, hl2⟩ := inF h5
        obtain rfl := same hl hl2
        exact hb'.2.2.2 i hi hb2
      · rw [h5] at hl
        rcases hl with ⟨a1, e, rfl⟩ | e
        · cases e; exact hb'.2.1 rfl
        · cases e
    · rintro ⟨i, hi, rfl, h5⟩
      obtain ⟨b', ⟨hb2, _⟩, hl2⟩ := inF h5
      obtain ⟨b3, hb3, hl3⟩ := inF (h4 hwr)
      obtain rfl := same hl hl2
      obtain rfl := same hl hl3
      exact (S'.mO _ hb3).2 i hi hb2
  · obtain ⟨cs, h1, h2⟩ := hcom.pay
    exact ⟨cs, by rw [hC]; exact h1, h2⟩
  · refine ⟨fun b hb => (ok.keep b (by have := hk0.lW; omega) fun ho => by have := hk0.lM b ho; omega).trans (hk0.keep b hb), hk0.lW, hk0.lC, hk0.lO, fun b hb => ?_, ok.tape.trans hk0.tape, ok.os.trans hk0.os, ok.output.trans hk0.output, fun x => ok.nb (hk0.nb x)⟩
    rcases ok.newO b hb with h | h
    · exact hk0.lM b h
    · have := hk0.lW; omega
end

end Go.Proofs.YtkpekiajdlolnaaGreat.Ph
