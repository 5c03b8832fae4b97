/-
  PROVED IN PARTS: text 4 of 10 of the carrying ground of the claim (see each part's own remark). Conditions: those that each theorem names.
-/
import Derived.Test.YtkpekiajdlolnabGreatM03
import Derived.Test.YtkpekiajdlolnabGreatChecked
set_option linter.unusedVariables false
set_option linter.unusedSimpArgs false

/-
  THE PHASE, sixteenth text: A WORKER's STEPS IN THE LIBRARY (its release; Done).
-/
namespace Go.Proofs.YtkpekiajdlolnabGreat.Ph
open Go Go.Conc Go.ConcN Go.Proofs.YtkpekiajdlolnabGreat.Sim
open Go.ConcR (KK WgAt stA smA rd wr mk Payload DC0 g_of_ofEvents Bk bk_of_mute ofEvent_loc_mark ofEvent_cell)

theorem xd_upd (D : Nat → WX) (i : Nat) (x : WX) : xd (upd D i x) = upd (xd D) i ⟨if x.stage = 9 then 7 else x.stage, x.fuel, x.deaf⟩ := by
  funext k
  by_cases e : k = i
  · subst e; simp only [xd, upd_same]
  · rw [upd_ne (xd D) _ e]; simp only [xd]; rw [upd_ne D _ e]
theorem JT.bound {n j : Nat} {tag : Tag} (h : JT n tag j) : j + pendT tag ≤ n := by
  cases tag <;> simp only [JT, pendT] at h ⊢ <;> omega

section
variable {j i : Nat} {D : Nat → WD} {tag : Tag} {st sm : Int}
theorem Mo.same (hm : Mo j D tag st sm) (m' dd' : Nat) : Mo j (upd D i ⟨(D i).stage, m', dd'⟩) tag st sm :=
  hm.congr fun a _ => by
    by_cases e : a = i
    · subst e; rw [upd_same]
    · rw [upd_ne D _ e]
/-- A counted worker goes on to a stage at which it is still counted. -/
theorem Mo.counted (hm : Mo j D tag st sm) (hi : i < j) (h5 : 5 ≤ (D i).stage) {s' : Nat} (hs : s' = 6 ∨ s' = 5) (m' dd' : Nat) : Mo j (upd D i ⟨s', m', dd'⟩) tag st sm := by
  have hv : Vc j (upd D i ⟨s', m', dd'⟩) = Vc j D := by
    have := Vc_upd D (⟨s', m', dd'⟩ : WD) hi
    have c1 : cnt (D i) = 1 := by simp [cnt, h5]
    have c2 : cnt (⟨s', m', dd'⟩ : WD) = 1 := by rcases hs with rfl | rfl <;> simp [cnt]
    omega
  have ho : OpenSt j D → OpenSt j (upd D i ⟨s', m', dd'⟩) := fun h a ha => by
    by_cases e : a = i
    · subst e; rw [upd_same]; rcases hs with rfl | rfl <;> simp
    · rw [upd_ne D _ e]; exact h a ha
  cases hm with
  | opn h1 h2 h3 => rw [← hv]; exact .opn h1 (ho h2) (fun vs e => by rw [hv]; exact h3 vs e)
  | reg h1 h2 h3 => rw [← hv]; exact .reg h1 (ho h2) (by rw [hv]; exact h3)
  | last L h1 h2 h3 h4 =>
    by_cases e : i = L
    · subst e; omega
    · have := h4 i hi e; omega
  | sema _ h2 => have := h2 i hi; omega
  | fin h1 h2 => have := h2 i hi; omega
/-- Whoever stands at stage 4, 3 or 2 is THE LAST ONE. -/
theorem Mo.isLast (hm : Mo j D tag st sm) (hi : i < j) (h : (D i).stage = 4 ∨ (D i).stage = 3 ∨ (D i).stage = 2) :
    isW3T tag ∧ (∀ a, a < j → a ≠ i → (D a).stage = 1) ∧ st = (if (D i).stage = 2 then 0 else 1) ∧ sm = 0 := by
  cases hm with
  | opn _ h2 _ => have := h2 i hi; omega
  | reg _ h2 _ => have := h2 i hi; omega
  | last L h1 h2 h3 h4 =>
    by_cases e : i = L
    · subst e; exact ⟨h1, h4, rfl, rfl⟩
    · have := h4 i hi e; omega
  | sema _ h2 => have := h2 i hi; omega
  | fin _ h2 => have := h2 i hi; omega
end

section
variable [Payload] {P : Program} {ty : TypeId} {o Wg C n : Nat} {SB : Blocks} {Res : Nat → Blocks → Value → World → Prop} {K : Goroutine → World → Prop} {L0 : Nat} {w0 : World} {gs : Array Goroutine} {w w' : World} {sl : Option (Nat × Nat)} {j : Nat} {D : Nat → WX} {q : Nat → Nat} {tag : Tag} {f0 d0 : Nat} {rk : Rank} {FM OM : Blocks} {a : Goroutine} {t : Trace} {st sm : Int}

omit [Payload] in
theorem touchW_bk {x : Event} (h : Bk Wg x) {y : Touch} (hy : (MemAct.ofEvent x).touch? = some y) : y.loc.isMemory = true ∧ ShP Wg SB y.loc ∧ y.kind = .atomic := by
  rcases h with h1 | h1 | ⟨b, wr, rfl, hb⟩
  · rw [ofEvent_loc_mark h1] at hy; cases hy
  · rw [ofEvent_loc_mark h1] at hy; cases hy
  · rw [ofEvent_cell] at hy
    simp only [MemAct.touch?, Option.some.injEq] at hy
    subst hy
    exact ⟨rfl, ⟨b, rfl, .inr hb⟩, rfl⟩

set_option maxHeartbeats 3200000 in
/-- A WORKER's STEP IN THE LIBRARY. -/
theorem libStep (hRes : ∀ i F v w w1, Res i F v w → Ext F w w1 → Res i F v w1) (hn : n < 2147483648) (ha : gs[0]? = some a) (hms : MS P ty Wg C n Res K tag f0 d0 rk FM OM a w) (hcom : PCom P ty o Wg C n SB Res j gs w t D q d0) (S : Sep Wg C SB j D FM OM w) (hjt : JT n tag j) (hk0 : Kept Wg C L0 w0 j D OM w)
    (hwg : WgAt ty Wg w st sm) (hmode : Mo j (xd D) tag st sm) {i : Nat} (hi : i < j) {g : Goroutine} (hg : gs[o + i]? = some g) (hrun : g.status = .running)
    (hs : WSit P ty Wg C n none2 none2 0 (i + 1) (D i).val (D i).stage (D i).fuel (D i).deaf g w) (hres : Res i (D i).F (D i).val w) :
    ∃ m₁ ops μ', runT P (crowd gs w sl) (o + i) = (.next m₁, ops) ∧ MLt (n + 1) μ' (psi n (Vc j (xd D)) tag + SSum j D, ranks n D rk, f0 + 2 * FSum j D + 2 * sumTo o q) ∧ PInv P ty o Wg C n SB Res K L0 w0 μ' m₁ (t ++ ops) := by
  have lW := S.lW
  have lC := S.lC
  have hCW := S.hCW
  have hop := hcom.opos
  have hb := hjt.bound
  have hVj := Vc_le j (xd D)
  have kL := hk0.lW
  have kC := hk0.lC
  have mW : ¬ FM Wg := fun h => (S.mF Wg h).2.1 rfl
  have mC : ¬ FM C := fun h => (S.mF C h).2.2.1 rfl
  have wW : ∀ i', i' < j → ¬ (D i').F Wg := fun i' h' h => (S.wF i' h' Wg h).2.1 rfl
  have wC : ∀ i', i' < j → ¬ (D i').F C := fun i' h' h => (S.wF i' h' C h).2.2.1 rfl
  generalize hst : (D i).stage = s at hs
  generalize hfu : (D i).fuel = m at hs
  generalize hde : (D i).deaf = dd at hs
  have hdk : Deaf t (o + i) = dd := by rw [hcom.deafW i hi, hde]
  have xs9 : s ≠ 9 := by rintro rfl; cases hs
  have xst : (xd D i).stage = s := by simp only [xd, hst]; rw [if_neg xs9]
  have xfu : (xd D i).fuel = m := hfu
  have xde : (xd D i).deaf = dd := hde
  -- A STEP OF THE LIBRARY's BOOKKEEPING: at most the group's block turns
  have bookG : ∀ {g' : Goroutine} {w' : World} {es : Array Event} {s' m' dd' : Nat} {st' sm' : Int}, stepG P false g w = .go g' w' es → Aside Wg w w' → WgAt ty Wg w' st' sm' → (∀ e ∈ es, Bk Wg e) →
      (∀ jx e, es[jx]? = some e → (MemAct.ofEvent e).touch? = none ∨ 0 < deafBehind dd (es.extract 0 jx)) → WSit P ty Wg C n none2 none2 0 (i + 1) (D i).val s' m' dd' g' w' → deafBehind dd es = dd' → s ≤ 6 → s' ≤ 7 →
      (∀ tag', (tag' = tag ∨ (tag = .blk ∧ tag' = .sm)) → (mayWake P g = true → g'.status = .running → tag' ≠ .blk) → Mo j (upd (xd D) i ⟨s', m', dd'⟩) tag' st' sm') → ((s' < s ∧ cnt ⟨s', m', dd'⟩ ≤ cnt (xd D i)) ∨ (s' = s ∧ m' + 1 = m)) →
      ∃ m₁ ops μ', runT P (crowd gs w sl) (o + i) = (.next m₁, ops) ∧ MLt (n + 1) μ' (psi n (Vc j (xd D)) tag + SSum j D, ranks n D rk, f0 + 2 * FSum j D + 2 * sumTo o q) ∧ PInv P ty o Wg C n SB Res K L0 w0 μ' m₁ (t ++ ops) := by
    intro g' w' es s' m' dd' st' sm' hgo hAs hwg' hbk hd hs' hdd h6 h7 hmode' hlt
    obtain ⟨cs, hcs1, hcs2⟩ := hcom.pay
    have hsz : w.heap.size ≤ w'.heap.size := by rw [hAs.size]; exact Nat.le_refl _
    have hext : ∀ {F : Blocks}, ¬ F Wg → Ext F w w' := fun hn => ⟨hsz, fun b hb => hAs.block b fun e => hn (e ▸ hb)⟩
    let x : WX := ⟨s', m', dd', (D i).rank, (D i).F, (D i).O, (D i).val⟩
    have ex : xd (upd D i x) = upd (xd D) i ⟨s', m', dd'⟩ := by rw [xd_upd]; show upd (xd D) i (⟨if s' = 9 then 7 else s', m', dd'⟩ : WD) = _; rw [if_neg (by omega)]
    refine workerStep hRes ha hms hcom S hjt hk0 hi hg hgo (x := x) (S.same hi rfl rfl hsz) ⟨hext mW, fun _ => ⟨_, _, hwg'⟩⟩ (fun i' hi' hne => ⟨hext (wW i' hi'), RW.of_wg hAs ⟨_, _, hwg'⟩ hCW⟩)
      (.lib hs' (hRes _ _ _ _ _ hres (hext (wW i hi)))) hsz (fun _ h => h) (fun _ h => h) (fun _ h => .inl h) (fun _ h => .inl h)
      (fun e he y hy => let ⟨h1, h2, h3⟩ := touchW_bk (hbk e he) hy; ⟨h1, .inl ⟨h2, h3⟩⟩) (fun e he => (norel_of_Bk hbk) e he) (fun e he => lowT_bk (by omega) (hbk e he))
      (by rw [hde]; exact hdd) (fun _ => let ⟨r, hr⟩ := hcom.rel i hi (by omega); ⟨r, hr.book hdk _ _ hbk hd⟩) (fun _ => (cell_of_block (hAs.block C hCW) i).trans (hcom.has i hi (by omega))) ⟨cs, (hAs.block C hCW).trans hcs1, hcs2⟩ hwg'
      (fun tag' ht hw => by rw [ex]; exact hmode' tag' ht hw) (hk0.stepW (by omega) (fun b hb => hAs.block b (by omega)) (fun _ h => .inl h) hAs.tape hAs.os hAs.output (nb_of_block hAs.block ⟨_, _, _, hwg'⟩)) ?_
    rcases hlt with ⟨h1, h2⟩ | ⟨h1, h2⟩
    · refine .inl ⟨by rw [hst]; exact h1, ?_⟩
      rw [ex, upd_same]; exact h2
    · exact .inr (.inr ⟨by rw [hst]; exact h1, rfl, by rw [hfu]; exact h2⟩)
  have book : ∀ {g' : Goroutine} {w' : World} {es : Array Event} {s' m' dd' : Nat} {st' sm' : Int}, stepG P false g w = .go g' w' es → Aside Wg w w' → WgAt ty Wg w' st' sm' → (∀ e ∈ es, Bk Wg e) →
      (∀ jx e, es[jx]? = some e → (MemAct.ofEvent e).touch? = none ∨ 0 < deafBehind dd (es.extract 0 jx)) → WSit P ty Wg C n none2 none2 0 (i + 1) (D i).val s' m' dd' g' w' → deafBehind dd es = dd' → s ≤ 6 → s' ≤ 7 →
      Mo j (upd (xd D) i ⟨s', m', dd'⟩) tag st' sm' → ((s' < s ∧ cnt ⟨s', m', dd'⟩ ≤ cnt (xd D i)) ∨ (s' = s ∧ m' + 1 = m)) →
      ∃ m₁ ops μ', runT P (crowd gs w sl) (o + i) = (.next m₁, ops) ∧ MLt (n + 1) μ' (psi n (Vc j (xd D)) tag + SSum j D, ranks n D rk, f0 + 2 * FSum j D + 2 * sumTo o q) ∧ PInv P ty o Wg C n SB Res K L0 w0 μ' m₁ (t ++ ops) :=
    fun hgo hAs hwg' hbk hd hs' hdd h6 h7 hmode' hlt => bookG hgo hAs hwg' hbk hd hs' hdd h6 h7 (fun _ ht _ => hmode'.retag ht) hlt
  -- AN IDLE STEP BEHIND THE RELEASE: nothing turns, nothing is listed
  have idle : ∀ {g' : Goroutine} {m' : Nat}, stepG P false g w = .go g' w #[] → WSit P ty Wg C n none2 none2 0 (i + 1) (D i).val s m' dd g' w → m' + 1 = m → s ≤ 6 →
      ∃ m₁ ops μ', runT P (crowd gs w sl) (o + i) = (.next m₁, ops) ∧ MLt (n + 1) μ' (psi n (Vc j (xd D)) tag + SSum j D, ranks n D rk, f0 + 2 * FSum j D + 2 * sumTo o q) ∧ PInv P ty o Wg C n SB Res K L0 w0 μ' m₁ (t ++ ops) := by
    intro g' m' hgo hs' hm h6
    exact book hgo (.refl Wg w) hwg (by simp) (by simp) hs' rfl h6 (by omega) (by have := hmode.same (i := i) m' dd; rwa [xst] at this) (.inr ⟨rfl, hm⟩)
  cases hs with
  | r0 h =>
    rcases Goes.cases h with hstop | ⟨m', rfl, hstep⟩
    · obtain ⟨_, hhas, g', hgo, m₂, hk⟩ := hstop w (RW.refl w)
      let x : WX := ⟨6, m₂, 0, (D i).rank, (D i).F, (D i).O, (D i).val⟩
      have ex : xd (upd D i x) = upd (xd D) i ⟨6, m₂, 0⟩ := by rw [xd_upd]; rfl
      refine workerStep hRes ha hms hcom S hjt hk0 hi hg hgo (x := x) (S.same hi rfl rfl (Nat.le_refl _)) (rm_refl w) (fun i' hi' hne => ⟨Ext.refl .., RW.refl w⟩)
        (.lib (.k1 hk) hres) (Nat.le_refl _) (fun _ h => h) (fun _ h => h) (fun _ h => .inl h) (fun _ h => .inl h)
        (fun e he y hy => by simp at he; subst he; cases hy) (fun e he => by simp at he; subst he; simp [mk]) (fun e he y hy => by simp at he; subst he; cases hy)
        (by rw [hde]; rfl) (fun _ => ⟨t.size, RelBy.new hdk _ _⟩) (fun _ => by simpa using hhas) hcom.pay hwg
        (fun tag' ht hw => by rw [ex]; exact (hmode.counted hi (by omega) (.inl rfl) _ _).retag ht) (hk0.stepW (by omega) (fun _ _ => rfl) (fun _ h => .inl h) rfl rfl rfl id) (.inl ⟨by rw [hst]; exact (by decide : 6 < 7), ?_⟩)
      rw [ex, upd_same]
      simp [cnt, xst]
    · obtain ⟨g', w', es, hgo, ⟨hac, hev⟩, hg'⟩ := hstep w (RW.refl w)
      simp only [Nat.add_sub_cancel] at hac
      have hsz : w.heap.size ≤ w'.heap.size := by rw [hac.size]; exact Nat.le_refl _
      have hext : ∀ {F : Blocks}, ¬ F C → Ext F w w' := fun hn => ⟨hsz, fun b hb => hac.block b fun e => hn (e ▸ hb)⟩
      have hwg' : WgAt ty Wg w' st sm := hwg.of_block (hac.block Wg (Ne.symm hCW))
      have tch : ∀ e ∈ es, ∀ y, (MemAct.ofEvent e).touch? = some y → ∃ b, y.loc = .cell b ∧ b.block = Wg ∧ y.kind = .atomic := fun e he y hy => by
        rcases ((hev e he).1 (0 : Nat) "").2 y hy with ⟨⟨b, h1, h2⟩, h3, h4⟩ | h1 | ⟨h1, _⟩
        · refine ⟨b, h1, h2, ?_⟩
          cases hk : y.kind with
          | atomic => rfl
          | plain => exact absurd hk h3
          | said => exact absurd hk h4
        · exact h1.elim
        · exact h1.elim
      let x : WX := ⟨7, m', 0, (D i).rank, (D i).F, (D i).O, (D i).val⟩
      have ex : xd (upd D i x) = upd (xd D) i ⟨7, m', 0⟩ := by rw [xd_upd]; rfl
      refine workerStep hRes ha hms hcom S hjt hk0 hi hg hgo (x := x) (S.same hi rfl rfl hsz) ⟨hext mC, fun _ => ⟨_, _, hwg'⟩⟩ (fun i' hi' hne => ⟨hext (wC i' hi'), RW.of_cell hac hne hCW⟩)
        (.lib (.r0 hg') (hRes _ _ _ _ _ hres (hext (wC i hi)))) hsz (fun _ h => h) (fun _ h => h) (fun _ h => .inl h) (fun _ h => .inl h)
        (fun e he y hy => ?_) (fun e he => (hev e he).2.2.2) (fun e he y hy => ?_)
        (by rw [hde]; exact deafBehind_idle (fun e he => ⟨(hev e he).2.1, (hev e he).2.2.1⟩) 0) (fun h => absurd (show 7 ≤ 6 from h) (by decide)) (fun h => absurd (show 7 ≤ 6 from h) (by decide)) (hac.pay hcom.pay) hwg'
        (fun tag' ht hw => by rw [ex]; exact Mo.retag (by have := hmode.same (i := i) m' 0; rwa [xst] at this) ht) (hk0.stepW (by omega) (fun b hb => hac.block b (by omega)) (fun _ h => .inl h) hac.tape hac.os hac.output (nb_of_block hac.block (let ⟨_, h, _⟩ := hac.pay hcom.pay; ⟨_, _, _, h⟩)))
        (.inr (.inr ⟨hst.symm, rfl, hfu.symm⟩))
      · obtain ⟨b, h1, h2, h3⟩ := tch e he y hy
        rw [h1]
        exact ⟨rfl, .inl ⟨⟨b, rfl, .inr h2⟩, h3⟩⟩
      · obtain ⟨b, h1, h2, h3⟩ := tch e he y hy
        rw [h1]
        show b.block < _
        omega
  | k1 h =>
    rcases Goes.cases h with hstop | ⟨m', rfl, hstep⟩
    · obtain ⟨_, g', hgo, m₂, hk⟩ := hstop w (RW.refl w)
      exact book hgo (.refl Wg w) hwg (by intro e he; simp at he; subst he; exact .inl rfl) (by intro jx e he; exact .inl (by have := Array.mem_of_getElem? he; simp at this; subst this; rfl)) (.d1 hk) rfl (by omega) (by omega)
        (hmode.counted hi (by omega) (.inr rfl) _ _) (.inl ⟨by omega, by simp [cnt, xst]⟩)
    · obtain ⟨g', w', es, hgo, ⟨rfl, rfl⟩, hg'⟩ := hstep w (RW.refl w)
      exact idle hgo (.k1 hg') rfl (by omega)
  | d1 h =>
    rcases Goes.cases h with hstop | ⟨m', rfl, hstep⟩
    · obtain ⟨_, hall⟩ := hstop w (RW.refl w)
      have hc1 : cnt (xd D i) = 1 := by simp [cnt, xst]
      have hV1 : 1 ≤ Vc j (xd D) := by have := le_sumTo (f := fun x => cnt (xd D x)) hi; simp only [Vc]; omega
      have bk2 : ∀ e ∈ #[rd (stA Wg), wr (stA Wg)], Bk Wg e := by intro e he; simp at he; rcases he with rfl | rfl <;> exact bk_cell _ _ rfl
      have df2 : ∀ jx e, (#[rd (stA Wg), wr (stA Wg)] : Array Event)[jx]? = some e → (MemAct.ofEvent e).touch? = none ∨ 0 < deafBehind 1 ((#[rd (stA Wg), wr (stA Wg)] : Array Event).extract 0 jx) := by
        intro jx e he
        match jx, he with
        | 0, _ => exact .inr (by simp [deafBehind])
        | 1, _ => exact .inr (by simp [deafBehind, rd])
        | jx + 2, he => simp at he
      have hq0 : ∀ q, cnt (⟨1, q, 1⟩ : WD) = 0 := fun _ => rfl
      have opq : ∀ q, OpenSt j (xd D) → OpenSt j (upd (xd D) i ⟨1, q, 1⟩) := fun q h a ha => by
        by_cases e : a = i
        · subst e; rw [upd_same]; simp
        · rw [upd_ne (xd D) _ e]; exact h a ha
      cases hmode with
      | opn h1 h2 h3 =>
        obtain ⟨v, hv⟩ : ∃ v, Vc j (xd D) + pendT tag = v + 1 := ⟨Vc j (xd D) + pendT tag - 1, by omega⟩
        rw [hv] at hwg
        have hw1 : WgAt ty Wg w (((v : Nat) + 1) * KK + ((0 : Nat) : Int)) 0 := by simpa using hwg
        obtain ⟨g', hgo, _, hq⟩ := hall v 0 (by omega) (by omega) hw1
        obtain ⟨q, hq⟩ := hq (by omega)
        have hv' : Vc j (upd (xd D) i ⟨1, q, 1⟩) + pendT tag = v := by have := Vc_upd (xd D) (⟨1, q, 1⟩ : WD) hi; have := hq0 q; omega
        refine book hgo (aside_setCell w (stA Wg) _) (hwg.setSt _) bk2 df2 (.quit hq) rfl (by omega) (by omega) ?_ (.inl ⟨by omega, by simp [cnt]⟩)
        have e : ((v : Nat) : Int) * KK + ((0 : Nat) : Int) = ((Vc j (upd (xd D) i ⟨1, q, 1⟩) + pendT tag : Nat) : Int) * KK := by rw [hv']; simp
        rw [e]
        exact .opn h1 (opq q h2) (fun vs ev => by have := h3 vs ev; omega)
      | reg h1 h2 h3 =>
        obtain ⟨v, hv⟩ : ∃ v, Vc j (xd D) = v + 1 := ⟨Vc j (xd D) - 1, by omega⟩
        rw [hv] at hwg
        have hp : pendT tag = 0 := by cases tag <;> first | rfl | exact h1.elim
        have hw1 : WgAt ty Wg w (((v : Nat) + 1) * KK + ((1 : Nat) : Int)) 0 := by simpa using hwg
        obtain ⟨g', hgo, hl, hq⟩ := hall v 1 (by omega) (by omega) hw1
        by_cases hv0 : v = 0
        · subst hv0
          obtain ⟨m₂, hk⟩ := hl ⟨rfl, rfl⟩
          refine book hgo (aside_setCell w (stA Wg) _) (hwg.setSt _) bk2 df2 (.d2 hk) rfl (by omega) (by omega) ?_ (.inl ⟨by omega, by simp [cnt]⟩)
          have hoth : ∀ a, a < j → a ≠ i → (xd D a).stage = 1 := fun a ha e => by
            have c0 := others_uncounted hi hv hc1 a ha e
            have := h2 a ha
            simp only [cnt] at c0
            split at c0 <;> omega
          have := Mo.last (j := j) (D := upd (xd D) i ⟨4, m₂, 1⟩) (tag := tag) i h1 hi (by rw [upd_same]; simp) (fun a ha e => by rw [upd_ne (xd D) _ e]; exact hoth a ha e)
          rw [upd_same] at this
          simpa using this
        · obtain ⟨q, hq⟩ := hq (by omega)
          have hv' : Vc j (upd (xd D) i ⟨1, q, 1⟩) = v := by have := Vc_upd (xd D) (⟨1, q, 1⟩ : WD) hi; have := hq0 q; omega
          refine book hgo (aside_setCell w (stA Wg) _) (hwg.setSt _) bk2 df2 (.quit hq) rfl (by omega) (by omega) ?_ (.inl ⟨by omega, by simp [cnt]⟩)
          have e : ((v : Nat) : Int) * KK + ((1 : Nat) : Int) = ((Vc j (upd (xd D) i ⟨1, q, 1⟩) : Nat) : Int) * KK + 1 := by rw [hv']; simp
          rw [e]
          exact .reg h1 (opq q h2) (by omega)
      | last L _ h2 h3 h4 =>
        by_cases e : i = L
        · subst e; omega
        · have := h4 i hi e; omega
      | sema _ h2 => have := h2 i hi; omega
      | fin _ h2 => have := h2 i hi; omega
    · obtain ⟨g', w', es, hgo, ⟨rfl, rfl⟩, hg'⟩ := hstep w (RW.refl w)
      exact idle hgo (.d1 hg') rfl (by omega)
  | d2 h =>
    rcases Goes.cases h with hstop | ⟨m', rfl, hstep⟩
    · obtain ⟨_, hx⟩ := hstop w (RW.refl w)
      obtain ⟨hW3, hoth, rfl, rfl⟩ := hmode.isLast hi (by omega)
      simp only [xst] at hwg
      obtain ⟨g', hgo, m₂, hk⟩ := hx (by simpa using hwg)
      refine book hgo (.refl Wg w) hwg (by intro e he; simp at he; subst he; exact bk_cell _ _ rfl) (by intro jx e he; match jx, he with | 0, _ => exact .inr (by simp [deafBehind]) | jx + 1, he => simp at he) (.d3 hk) rfl (by omega) (by omega) ?_ (.inl ⟨by omega, by simp [cnt]⟩)
      have := Mo.last (j := j) (D := upd (xd D) i ⟨3, m₂, 1⟩) (tag := tag) i hW3 hi (by rw [upd_same]; simp) (fun a ha e => by rw [upd_ne (xd D) _ e]; exact hoth a ha e)
      rw [upd_same] at this
      simpa using this
    · obtain ⟨g', w', es, hgo, ⟨rfl, rfl⟩, hg'⟩ := hstep w (RW.refl w)
      exact idle hgo (.d2 hg') rfl (by omega)
  | d3 h =>
    rcases Goes.cases h with hstop | ⟨m', rfl, hstep⟩
    · obtain ⟨_, hx⟩ := hstop w (RW.refl w)
      obtain ⟨hW3, hoth, rfl, rfl⟩ := hmode.isLast hi (by omega)
      simp only [xst] at hwg
      obtain ⟨g', hgo, m₂, hk⟩ := hx (by simpa using hwg)
      refine book hgo (aside_setCell w (stA Wg) _) (hwg.setSt 0) (by intro e he; simp at he; subst he; exact bk_cell _ _ rfl) (by intro jx e he; match jx, he with | 0, _ => exact .inr (by simp [deafBehind]) | jx + 1, he => simp at he) (.d4 hk) rfl (by omega) (by omega) ?_ (.inl ⟨by omega, by simp [cnt]⟩)
      have := Mo.last (j := j) (D := upd (xd D) i ⟨2, m₂, 1⟩) (tag := tag) i hW3 hi (by rw [upd_same]; simp) (fun a ha e => by rw [upd_ne (xd D) _ e]; exact hoth a ha e)
      rw [upd_same] at this
      simpa using this
    · obtain ⟨g', w', es, hgo, ⟨rfl, rfl⟩, hg'⟩ := hstep w (RW.refl w)
      exact idle hgo (.d3 hg') rfl (by omega)
  | d4 h =>
    rcases Goes.cases h with hstop | ⟨m', rfl, hstep⟩
    · obtain ⟨_, hmw, hx⟩ := hstop w (RW.refl w)
      obtain ⟨hW3, hoth, rfl, rfl⟩ := hmode.isLast hi (by omega)
      simp only [xst] at hwg
      obtain ⟨g', hgo, q, hq⟩ := hx (by simpa using hwg)
      have hrun' : g'.status = .running := by
        cases q with
        | zero => exact absurd hq.2 (by decide)
        | succ q => exact hq.elim (fun x => absurd x.2 (by decide)) (fun x => x.1)
      refine bookG hgo (aside_setCell w (smA Wg) _) (hwg.setSm 1) (es := semEvents (smA Wg)) bk_sem ?_ (.quit hq) (by simp [deafBehind, semEvents]) (by omega) (by omega) ?_ (.inl ⟨by omega, by simp [cnt]⟩)
      · intro jx e he
        match jx, he with
        | 0, he => simp [semEvents] at he; subst he; exact .inl rfl
        | 1, _ => exact .inr (by simp [deafBehind, semEvents])
        | 2, _ => exact .inr (by simp [deafBehind, semEvents])
        | 3, he => simp [semEvents] at he; subst he; exact .inl rfl
        | jx + 4, he => simp [semEvents] at he
      · intro tag' ht hw
        have hnb := hw hmw hrun'
        have e3 : tag' = .sm ∨ tag' = .ws := by
          rcases ht with rfl | ⟨_, rfl⟩
          · cases tag' <;> first | exact .inl rfl | exact .inr rfl | exact hW3.elim | exact absurd rfl hnb
          · exact .inl rfl
        have hq' : AllQuit j (upd (xd D) i ⟨1, q, 1⟩) := fun a ha => by
          by_cases e : a = i
          · subst e; rw [upd_same]
          · rw [upd_ne (xd D) _ e]; exact hoth a ha e
        simp only [if_true]
        exact .sema e3.symm hq'
    · obtain ⟨g', w', es, hgo, ⟨rfl, rfl⟩, hg'⟩ := hstep w (RW.refl w)
      exact idle hgo (.d4 hg') rfl (by omega)
  | quit h =>
    cases m with
    | zero => rw [h.1] at hrun; cases hrun
    | succ q =>
      rcases h with ⟨hf, _⟩ | ⟨_, g', es, hmute, hstep, hq⟩
      · rw [hf] at hrun; cases hrun
      · have hbk : ∀ e ∈ es, Bk Wg e := fun e he => bk_of_mute (hmute e he)
        have hno : ∀ jx e, es[jx]? = some e → (MemAct.ofEvent e).touch? = none ∨ 0 < deafBehind dd (es.extract 0 jx) := fun jx e he => .inl (touch_mute (hmute e (Array.mem_of_getElem? he)))
        exact book (hstep w) (.refl Wg w) hwg hbk hno (.quit hq) rfl (by omega) (by omega) (by have := hmode.same (i := i) q (deafBehind dd es); rwa [xst] at this) (.inr ⟨rfl, rfl⟩)
end

end Go.Proofs.YtkpekiajdlolnabGreat.Ph

/-
  THE PHASE, seventeenth text: THE STARTER's STEPS (all but the go statement and the last).
-/
namespace Go.Proofs.YtkpekiajdlolnabGreat.Ph
open Go Go.Conc Go.ConcN Go.Proofs.YtkpekiajdlolnabGreat.Sim
open Go.ConcN.Gen (ev0_said_read ev0_said_write)
open Go.ConcR (KK WgAt stA smA rd wr mk Payload DC0 g_of_ofEvents Bk bk_of_mute ofEvent_loc_mark ofEvent_cell)

theorem MLt.lt1 {N : Nat} {a b c : Mea} (h : MLt N a b) (k : b.1 < c.1) : MLt N a c := by
  obtain ⟨a1, a2⟩ := a
  obtain ⟨b1, b2⟩ := b
  obtain ⟨c1, c2⟩ := c
  simp only at k
  rcases Prod.lex_def.1 h with h | ⟨h, _⟩
  · simp only at h; exact Prod.Lex.left _ _ (by omega)
  · simp only at h; exact Prod.Lex.left _ _ (by omega)

section
variable [Payload] (P : Program) (ty : TypeId) (o Wg C n : Nat) (SB : Blocks) (Res : Nat → Blocks → Value → World → Prop) (K : Goroutine → World → Prop) (L0 : Nat) (w0 : World)
/-- a step of goroutine k's leads on. -/
def Out (gs : Array Goroutine) (w : World) (sl : Option (Nat × Nat)) (t : Trace) (k : Nat) (μ : Mea) : Prop :=
  ∃ m₁ ops μ', runT P (crowd gs w sl) k = (.next m₁, ops) ∧ MLt (n + 1) μ' μ ∧ PInv P ty o Wg C n SB Res K L0 w0 μ' m₁ (t ++ ops)
end

section
variable {j : Nat} {D : Nat → WD} {tag tag' : Tag} {st sm : Int}
theorem Mo.reopen (hm : Mo j D tag st sm) (h : isOpenT tag) (h' : isOpenT tag') (hp : pendT tag' = pendT tag) (hw : ∀ vs, tag' = .cs vs → Vc j D ≤ vs ∧ 1 ≤ vs) : Mo j D tag' st sm := by
  cases hm with
  | opn _ h2 _ => rw [← hp]; exact .opn h' h2 hw
  | reg h1 _ _ => cases tag <;> first | exact h.elim | exact h1.elim
  | last L h1 _ _ _ => cases tag <;> first | exact h.elim | exact h1.elim
  | sema h1 _ => rcases h1 with rfl | rfl <;> exact h.elim
  | fin h1 _ => cases tag <;> first | exact h.elim | exact h1.elim
theorem Mo.open_inv (hm : Mo j D tag st sm) (h : isOpenT tag) : OpenSt j D ∧ st = ((Vc j D + pendT tag : Nat) : Int) * KK ∧ sm = 0 ∧ ∀ vs, tag = .cs vs → Vc j D ≤ vs ∧ 1 ≤ vs := by
  cases hm with
  | opn _ h2 h3 => exact ⟨h2, rfl, rfl, h3⟩
  | reg h1 _ _ => cases tag <;> first | exact h.elim | exact h1.elim
  | last L h1 _ _ _ => cases tag <;> first | exact h.elim | exact h1.elim
  | sema h1 _ => rcases h1 with rfl | rfl <;> exact h.elim
  | fin h1 _ => cases tag <;> first | exact h.elim | exact h1.elim
theorem Mo.fin_inv (hm : Mo j D tag st sm) (h : isFinT tag) : AllQuit j D ∧ st = 0 ∧ sm = 0 := by
  cases hm with
  | opn h1 _ _ => cases tag <;> first | exact h.elim | exact h1.elim
  | reg h1 _ _ => cases tag <;> first | exact h.elim | exact h1.elim
  | last L h1 _ _ _ => cases tag <;> first | exact h.elim | exact h1.elim
  | sema h1 _ => rcases h1 with rfl | rfl <;> exact h.elim
  | fin _ h2 => exact ⟨h2, rfl, rfl⟩
end

section
variable [Payload] {P : Program} {ty : TypeId} {o Wg C n : Nat} {SB : Blocks} {Res : Nat → Blocks → Value → World → Prop} {K : Goroutine → World → Prop} {L0 : Nat} {w0 : World} {gs : Array Goroutine} {w w' : World} {sl : Option (Nat × Nat)} {j : Nat} {D : Nat → WX} {q : Nat → Nat} {tag tag' : Tag} {f0 f' d0 : Nat} {rk rk' : Rank} {FM OM FM' OM' : Blocks} {a a' : Goroutine} {t : Trace} {st sm st' sm' : Int} {es : Array Event}

omit [Payload] in
theorem Sep.none (S : Sep Wg C SB j D FM OM w) : Sep Wg C SB j D FM (fun _ => False) w := ⟨S.wF, S.wO, S.apart, S.mF, fun _ h => h.elim, S.lW, S.lC, S.lS, S.hCW, S.sW, S.sC⟩
omit [Payload] in
theorem Sep.size (S : Sep Wg C SB j D FM OM w) (h : w.heap.size ≤ w'.heap.size) : Sep Wg C SB j D FM OM w' :=
  ⟨fun i hi b hb => let x := S.wF i hi b hb; ⟨Nat.lt_of_lt_of_le x.1 h, x.2⟩, S.wO, S.apart, fun b hb => let x := S.mF b hb; ⟨Nat.lt_of_lt_of_le x.1 h, x.2⟩, S.mO, Nat.lt_of_lt_of_le S.lW h, Nat.lt_of_lt_of_le S.lC h, fun b hb => Nat.lt_of_lt_of_le (S.lS b hb) h, S.hCW, S.sW, S.sC⟩
omit [Payload] in
theorem Kept.none (h : Kept Wg C L0 w0 j D OM w) : Kept Wg C L0 w0 j D (fun _ => False) w := ⟨h.keep, h.lW, h.lC, h.lO, fun _ h => h.elim, h.tape, h.os, h.output, h.nb⟩
omit [Payload] in
theorem Kept.wg (h : Kept Wg C L0 w0 j D OM w) (hA : Aside Wg w w') (hg : WgAt ty Wg w' st' sm') : Kept Wg C L0 w0 j D OM w' :=
  ⟨fun b hb => (hA.block b (by have := h.lW; omega)).trans (h.keep b hb), h.lW, h.lC, h.lO, h.lM, hA.tape.trans h.tape, hA.os.trans h.os, hA.output.trans h.output, fun x => nb_of_block hA.block ⟨_, _, _, hg⟩ (h.nb x)⟩

omit [Payload] in
theorem ok0P_of_touch {fn : FuncId} {pos : String} (h : ∀ e ∈ es, ∀ y, (MemAct.ofEvent e).touch? = some y → ∃ b, y.loc = .cell b ∧ b.block = Wg ∧ y.kind ≠ .plain) : ∀ op ∈ MemOp.ofEvents 0 fn pos es, Ok0 (ShP Wg SB) (OwnD o C j D) (RdD o j D) (o - 1 + j) op := by
  intro op hop
  obtain ⟨e, he, rfl⟩ := Go.Conc.mem_ofEvents hop
  refine ⟨rfl, fun y hy => ?_⟩
  obtain ⟨b, h1, h2, h3⟩ := h e he y hy
  exact .inl ⟨h1 ▸ ⟨b, rfl, .inr h2⟩, h3⟩
omit [Payload] in
theorem touch_bk (h : ∀ e ∈ es, Bk Wg e) : ∀ e ∈ es, ∀ y, (MemAct.ofEvent e).touch? = some y → ∃ b, y.loc = .cell b ∧ b.block = Wg ∧ y.kind ≠ .plain := by
  intro e he y hy
  rcases h e he with h1 | h1 | ⟨b, wr, rfl, hb⟩
  · rw [ofEvent_loc_mark h1] at hy; cases hy
  · rw [ofEvent_loc_mark h1] at hy; cases hy
  · rw [ofEvent_cell] at hy
    simp only [MemAct.touch?, Option.some.injEq] at hy
    subst hy
    exact ⟨b, rfl, hb, by simp⟩

/-- A STEP OF THE LIBRARY's BOOKKEEPING, by the starter: at most the group's block turns. -/
theorem bookM (hRes : ∀ i F v w w1, Res i F v w → Ext F w w1 → Res i F v w1) (ha : gs[0]? = some a) (hcom : PCom P ty o Wg C n SB Res j gs w t D q d0) (S : Sep Wg C SB j D FM OM w) (hk0 : Kept Wg C L0 w0 j D OM w)
    (hgo : stepG P true a w = .go a' w' es) (hAs : Aside Wg w w') (hwg' : WgAt ty Wg w' st' sm') (htc : ∀ e ∈ es, ∀ y, (MemAct.ofEvent e).touch? = some y → ∃ b, y.loc = .cell b ∧ b.block = Wg ∧ y.kind ≠ .plain) (hnr : ∀ e ∈ es, e.loc ≠ .mark (.release (stA Wg)))
    (hms' : MS P ty Wg C n Res K tag' f' (deafBehind d0 es) .leaf FM (fun _ => False) a' w') (hmode' : Mo j (xd D) tag' st' sm') (hjt : JT n tag' j)
    (hlt : psi n (Vc j (xd D)) tag' < psi n (Vc j (xd D)) tag ∨ (psi n (Vc j (xd D)) tag' = psi n (Vc j (xd D)) tag ∧ rk = .leaf ∧ f' < f0)) :
    Out P ty o Wg C n SB Res K L0 w0 gs w sl t 0 (psi n (Vc j (xd D)) tag + SSum j D, ranks n D rk, f0 + 2 * FSum j D + 2 * sumTo o q) := by
  obtain ⟨cs, hc1, hc2⟩ := hcom.pay
  have hsz : w.heap.size ≤ w'.heap.size := by rw [hAs.size]; exact Nat.le_refl _
  have lW := S.lW
  refine callerStep hRes ha hcom S hgo hms' (S.none.size hsz) (fun i hi => ⟨⟨hsz, fun b hb => hAs.block b (S.wF i hi b hb).2.1⟩, RW.of_wg hAs ⟨_, _, hwg'⟩ S.hCW⟩) hsz (ok0P_of_touch htc)
    (fun e he y hy => by obtain ⟨b, h1, _⟩ := htc e he y hy; rw [h1]; rfl) hnr (fun e he y hy => by obtain ⟨b, h1, h2, _⟩ := htc e he y hy; rw [h1]; show b.block < _; omega) ⟨cs, (hAs.block C S.hCW).trans hc1, hc2⟩ hwg' hmode' hjt (hk0.none.wg hAs hwg') ?_
  rcases hlt with h | ⟨h1, h2, h3⟩
  · exact .inl h
  · exact .inr (.inr ⟨h1, h2.symm, h3⟩)

/-- AN IDLE STEP OF THE STARTER's. -/
theorem idleM (hRes : ∀ i F v w w1, Res i F v w → Ext F w w1 → Res i F v w1) (ha : gs[0]? = some a) (hcom : PCom P ty o Wg C n SB Res j gs w t D q d0) (S : Sep Wg C SB j D FM OM w) (hk0 : Kept Wg C L0 w0 j D OM w)
    (hwg : WgAt ty Wg w st sm) (hmode : Mo j (xd D) tag st sm) (hjt : JT n tag j)
    (hgo : stepG P true a w = .go a' w' es) (hD : DC0 w w' es) (hms' : MS P ty Wg C n Res K tag f' d0 .leaf FM (fun _ => False) a' w') (hf : f' < f0) :
    Out P ty o Wg C n SB Res K L0 w0 gs w sl t 0 (psi n (Vc j (xd D)) tag + SSum j D, ranks n D .leaf, f0 + 2 * FSum j D + 2 * sumTo o q) := by
  obtain ⟨rfl, rfl⟩ := hD
  exact bookM hRes ha hcom S hk0 hgo (.refl Wg _) hwg (by simp) (by simp) hms' hmode hjt (.inr ⟨rfl, rfl, hf⟩)

omit [Payload] in
theorem nr_bk (h : ∀ e ∈ es, Bk Wg e) : ∀ e ∈ es, e.loc ≠ .mark (.release (stA Wg)) := fun e he => (norel_of_Bk h) e he
omit [Payload] in
theorem touch_said {m : Mark} (hm : m = .read (smA Wg) ∨ m = .write (smA Wg)) : ∀ e ∈ #[mk m], ∀ y, (MemAct.ofEvent e).touch? = some y → ∃ b, y.loc = .cell b ∧ b.block = Wg ∧ y.kind ≠ .plain := by
  intro e he y hy
  simp only [List.mem_toArray, List.mem_singleton] at he
  subst he
  rcases hm with rfl | rfl <;>
    (simp only [mk, MemAct.ofEvent, MemAct.touch?, Option.some.injEq] at hy
     subst hy
     exact ⟨smA Wg, rfl, rfl, by simp⟩)
omit [Payload] in
theorem nr_mk {m : Mark} (hm : m ≠ .release (stA Wg)) : ∀ e ∈ #[mk m], e.loc ≠ .mark (.release (stA Wg)) := by
  intro e he
  simp only [List.mem_toArray, List.mem_singleton] at he
  subst he
  intro h
  simp only [mk, Loc.mark.injEq] at h
  exact hm h

section
variable (hRes : ∀ i F v w w1, Res i F v w → Ext F w w1 → Res i F v w1) (hn : n < 2147483648) (ha : gs[0]? = some a) (hk0 : Kept Wg C L0 w0 j D OM w) (S : Sep Wg C SB j D FM OM w) (hwg : WgAt ty Wg w st sm)
include hRes hn ha hk0 S hwg

omit hn in
theorem kdSStep {r : Nat} (hcom : PCom P ty o Wg C n SB Res j gs w t D q 0) (hmode : Mo j (xd D) (.kdS r) st sm) (hjt : JT n (.kdS r) j) (hr : r < n)
    (h : Goes P true (RM ty Wg FM) DC0 (AtMk P .disable (MG P ty Wg FM (AtAdd P ty Wg FM (MG P ty Wg FM (AtGoM P ty Wg C n Res (n - (r + 1)) FM fun g' w => WG P true (Scr P ty Wg C n Res K r) FM (fun _ => False) g' w))))) f0 a w) :
    Out P ty o Wg C n SB Res K L0 w0 gs w sl t 0 (psi n (Vc j (xd D)) (.kdS r) + SSum j D, ranks n D .leaf, f0 + 2 * FSum j D + 2 * sumTo o q) := by
  rcases Goes.cases h with hstop | ⟨m', rfl, hstep⟩
  · obtain ⟨_, a', hgo, m₂, hk⟩ := hstop w (rm_refl w)
    exact bookM (tag' := .ad r) hRes ha hcom S hk0 hgo (.refl Wg _) hwg (touch_bk bk_dis) (nr_bk bk_dis) (.ad hr hk) (hmode.reopen trivial trivial rfl (by simp)) hjt (.inl (by simp only [psi]; omega))
  · obtain ⟨a', w', es, hgo, hD, hg'⟩ := hstep w (rm_refl w)
    exact idleM hRes ha hcom S hk0 hwg hmode hjt hgo hD (.kdS hr hg') (by omega)

theorem adStep {r : Nat} (hcom : PCom P ty o Wg C n SB Res j gs w t D q 1) (hmode : Mo j (xd D) (.ad r) st sm) (hjt : JT n (.ad r) j) (hr : r < n)
    (h : Goes P true (RM ty Wg FM) DC0 (AtAdd P ty Wg FM (MG P ty Wg FM (AtGoM P ty Wg C n Res (n - (r + 1)) FM fun g' w => WG P true (Scr P ty Wg C n Res K r) FM (fun _ => False) g' w))) f0 a w) :
    Out P ty o Wg C n SB Res K L0 w0 gs w sl t 0 (psi n (Vc j (xd D)) (.ad r) + SSum j D, ranks n D .leaf, f0 + 2 * FSum j D + 2 * sumTo o q) := by
  have hVj := Vc_le j (xd D)
  have hjn := hjt.le
  rcases Goes.cases h with hstop | ⟨m', rfl, hstep⟩
  · obtain ⟨_, hall⟩ := hstop w (rm_refl w)
    obtain ⟨ho, rfl, rfl, _⟩ := hmode.open_inv trivial
    have hj1 : j + r + 1 = n := hjt
    obtain ⟨a', hgo, hk⟩ := hall (Vc j (xd D)) (by omega) (by simpa [pendT] using hwg)
    rcases hk with ⟨_, m₂, hk⟩ | ⟨_, m₂, hk⟩
    · refine bookM (tag' := .rs r) hRes ha hcom S hk0 hgo (aside_setCell w (stA Wg) _) (hwg.setSt _) (touch_bk bk_rw) (nr_bk bk_rw) (.rs hr hk) ?_ hjt (.inl (by simp only [psi]; omega))
      have e : (((Vc j (xd D) : Nat) : Int) + 1) * KK = ((Vc j (xd D) + pendT (.rs r) : Nat) : Int) * KK := by simp [pendT]
      rw [e]
      exact .opn trivial ho (by simp)
    · refine bookM (tag' := .en r) hRes ha hcom S hk0 hgo (aside_setCell w (stA Wg) _) (hwg.setSt _) (touch_bk bk_rw) (nr_bk bk_rw) (.en hr hk) ?_ hjt (.inl (by simp only [psi]; omega))
      have e : (((Vc j (xd D) : Nat) : Int) + 1) * KK = ((Vc j (xd D) + pendT (.en r) : Nat) : Int) * KK := by simp [pendT]
      rw [e]
      exact .opn trivial ho (by simp)
  · obtain ⟨a', w', es, hgo, hD, hg'⟩ := hstep w (rm_refl w)
    exact idleM hRes ha hcom S hk0 hwg hmode hjt hgo hD (.ad hr hg') (by omega)

omit hn in
theorem rsStep {r : Nat} (hcom : PCom P ty o Wg C n SB Res j gs w t D q 1) (hmode : Mo j (xd D) (.rs r) st sm) (hjt : JT n (.rs r) j) (hr : r < n)
    (h : Goes P true (RM ty Wg FM) DC0 (AtMk P (.read (smA Wg)) (MG P ty Wg FM (AtMk P .enable (MG P ty Wg FM (AtGoM P ty Wg C n Res (n - (r + 1)) FM fun g' w => WG P true (Scr P ty Wg C n Res K r) FM (fun _ => False) g' w))))) f0 a w) :
    Out P ty o Wg C n SB Res K L0 w0 gs w sl t 0 (psi n (Vc j (xd D)) (.rs r) + SSum j D, ranks n D .leaf, f0 + 2 * FSum j D + 2 * sumTo o q) := by
  rcases Goes.cases h with hstop | ⟨m', rfl, hstep⟩
  · obtain ⟨_, a', hgo, m₂, hk⟩ := hstop w (rm_refl w)
    exact bookM (tag' := .en r) hRes ha hcom S hk0 hgo (.refl Wg _) hwg (touch_said (.inl rfl)) (nr_mk (by simp)) (.en hr hk) (hmode.reopen trivial trivial rfl (by simp)) hjt (.inl (by simp only [psi]; omega))
  · obtain ⟨a', w', es, hgo, hD, hg'⟩ := hstep w (rm_refl w)
    exact idleM hRes ha hcom S hk0 hwg hmode hjt hgo hD (.rs hr hg') (by omega)

omit hn in
theorem enStep {r : Nat} (hcom : PCom P ty o Wg C n SB Res j gs w t D q 1) (hmode : Mo j (xd D) (.en r) st sm) (hjt : JT n (.en r) j) (hr : r < n)
    (h : Goes P true (RM ty Wg FM) DC0 (AtMk P .enable (MG P ty Wg FM (AtGoM P ty Wg C n Res (n - (r + 1)) FM fun g' w => WG P true (Scr P ty Wg C n Res K r) FM (fun _ => False) g' w))) f0 a w) :
    Out P ty o Wg C n SB Res K L0 w0 gs w sl t 0 (psi n (Vc j (xd D)) (.en r) + SSum j D, ranks n D .leaf, f0 + 2 * FSum j D + 2 * sumTo o q) := by
  rcases Goes.cases h with hstop | ⟨m', rfl, hstep⟩
  · obtain ⟨_, a', hgo, m₂, hk⟩ := hstop w (rm_refl w)
    exact bookM (tag' := .gos r) hRes ha hcom S hk0 hgo (.refl Wg _) hwg (touch_bk bk_en) (nr_bk bk_en) (.gos hr hk) (hmode.reopen trivial trivial rfl (by simp)) hjt (.inl (by simp only [psi]; omega))
  · obtain ⟨a', w', es, hgo, hD, hg'⟩ := hstep w (rm_refl w)
    exact idleM hRes ha hcom S hk0 hwg hmode hjt hgo hD (.en hr hg') (by omega)

omit hn in
theorem kdStep {A : Goroutine → World → Prop} (hA1 : ∀ g w, A g w → g.status = .running) (hA2 : ∀ g w, A g w → MG P ty Wg FM (AtLd P ty Wg FM A K) g w) (hcom : PCom P ty o Wg C n SB Res j gs w t D q 0) (hmode : Mo j (xd D) .kd st sm) (hjt : JT n .kd j)
    (h : Goes P true (RM ty Wg FM) DC0 (AtMk P .disable (MG P ty Wg FM A)) f0 a w) :
    Out P ty o Wg C n SB Res K L0 w0 gs w sl t 0 (psi n (Vc j (xd D)) .kd + SSum j D, ranks n D .leaf, f0 + 2 * FSum j D + 2 * sumTo o q) := by
  have hVj := Vc_le j (xd D)
  have hjn := hjt.le
  rcases Goes.cases h with hstop | ⟨m', rfl, hstep⟩
  · obtain ⟨_, a', hgo, m₂, hk⟩ := hstop w (rm_refl w)
    exact bookM (tag' := .anch) hRes ha hcom S hk0 hgo (.refl Wg _) hwg (touch_bk bk_dis) (nr_bk bk_dis) (.anch hA1 hA2 hk) (hmode.reopen trivial trivial rfl (by simp)) hjt (.inl (by simp only [psi]; omega))
  · obtain ⟨a', w', es, hgo, hD, hg'⟩ := hstep w (rm_refl w)
    exact idleM hRes ha hcom S hk0 hwg hmode hjt hgo hD (.kd hA1 hA2 hg') (by omega)

theorem ldStep {A : Goroutine → World → Prop} (hA1 : ∀ g w, A g w → g.status = .running) (hA2 : ∀ g w, A g w → MG P ty Wg FM (AtLd P ty Wg FM A K) g w) (hcom : PCom P ty o Wg C n SB Res j gs w t D q 1) (hmode : Mo j (xd D) .ld st sm) (hjt : JT n .ld j)
    (h : Goes P true (RM ty Wg FM) DC0 (AtLd P ty Wg FM A K) f0 a w) :
    Out P ty o Wg C n SB Res K L0 w0 gs w sl t 0 (psi n (Vc j (xd D)) .ld + SSum j D, ranks n D .leaf, f0 + 2 * FSum j D + 2 * sumTo o q) := by
  have hVj := Vc_le j (xd D)
  have hjn := hjt.le
  rcases Goes.cases h with hstop | ⟨m', rfl, hstep⟩
  · obtain ⟨_, hall⟩ := hstop w (rm_refl w)
    obtain ⟨ho, rfl, rfl, _⟩ := hmode.open_inv trivial
    obtain ⟨a', hgo, h0, hne⟩ := hall (Vc j (xd D)) (by omega) (by simpa [pendT] using hwg)
    by_cases hv : Vc j (xd D) = 0
    · obtain ⟨m₂, hk⟩ := h0 hv
      refine bookM (tag' := .en2) hRes ha hcom S hk0 hgo (.refl Wg _) hwg (touch_bk bk_rd) (nr_bk bk_rd) (.en2 hk) ?_ hjt (.inl (by simp only [psi]; omega))
      have e : ((Vc j (xd D) + pendT .ld : Nat) : Int) * KK = 0 := by rw [hv]; simp [pendT]
      rw [e]
      exact .fin trivial (allQuit_of ho hv)
    · obtain ⟨m₂, hk⟩ := hne hv
      exact bookM (tag' := .cs (Vc j (xd D))) hRes ha hcom S hk0 hgo (.refl Wg _) hwg (touch_bk bk_rd) (nr_bk bk_rd) (.cs hA1 hA2 hk) (hmode.reopen trivial trivial rfl (fun vs e => by cases e; omega)) hjt (.inl (by simp only [psi]; omega))
  · obtain ⟨a', w', es, hgo, hD, hg'⟩ := hstep w (rm_refl w)
    exact idleM hRes ha hcom S hk0 hwg hmode hjt hgo hD (.ld hA1 hA2 hg') (by omega)

theorem anchStep {A : Goroutine → World → Prop} (hA1 : ∀ g w, A g w → g.status = .running) (hA2 : ∀ g w, A g w → MG P ty Wg FM (AtLd P ty Wg FM A K) g w) (hcom : PCom P ty o Wg C n SB Res j gs w t D q 1) (hmode : Mo j (xd D) .anch st sm) (hjt : JT n .anch j)
    (h : Goes P true (RM ty Wg FM) DC0 A f0 a w) :
    Out P ty o Wg C n SB Res K L0 w0 gs w sl t 0 (psi n (Vc j (xd D)) .anch + SSum j D, ranks n D .leaf, f0 + 2 * FSum j D + 2 * sumTo o q) := by
  rcases Goes.cases h with hstop | ⟨m', rfl, hstep⟩
  · obtain ⟨m₂, hk⟩ := hA2 a w (hstop w (rm_refl w))
    obtain ⟨m₁, ops, μ', h1, h2, h3⟩ := ldStep (sl := sl) hRes hn ha hk0 S hwg hA1 hA2 hcom (hmode.reopen trivial trivial rfl (by simp)) hjt hk
    exact ⟨m₁, ops, μ', h1, h2.lt1 (by simp only [psi]; omega), h3⟩
  · obtain ⟨a', w', es, hgo, hD, hg'⟩ := hstep w (rm_refl w)
    exact idleM hRes ha hcom S hk0 hwg hmode hjt hgo hD (.anch hA1 hA2 hg') (by omega)

theorem csStep {A : Goroutine → World → Prop} {vs : Nat} (hA1 : ∀ g w, A g w → g.status = .running) (hA2 : ∀ g w, A g w → MG P ty Wg FM (AtLd P ty Wg FM A K) g w) (hcom : PCom P ty o Wg C n SB Res j gs w t D q 1) (hmode : Mo j (xd D) (.cs vs) st sm) (hjt : JT n (.cs vs) j)
    (h : Goes P true (RM ty Wg FM) DC0 (AtCas P ty Wg FM A K vs) f0 a w) :
    Out P ty o Wg C n SB Res K L0 w0 gs w sl t 0 (psi n (Vc j (xd D)) (.cs vs) + SSum j D, ranks n D .leaf, f0 + 2 * FSum j D + 2 * sumTo o q) := by
  have hVj := Vc_le j (xd D)
  have hjn := hjt.le
  rcases Goes.cases h with hstop | ⟨m', rfl, hstep⟩
  · obtain ⟨_, hall⟩ := hstop w (rm_refl w)
    obtain ⟨ho, rfl, rfl, hw2⟩ := hmode.open_inv trivial
    obtain ⟨hle, h1⟩ := hw2 vs rfl
    obtain ⟨hhit, hmiss⟩ := hall (Vc j (xd D)) (by omega) (by simpa [pendT] using hwg)
    by_cases e : Vc j (xd D) = vs
    · obtain ⟨a', hgo, m₂, hk⟩ := hhit e
      exact bookM (tag' := .ws) hRes ha hcom S hk0 hgo (aside_setCell w (stA Wg) _) (hwg.setSt _) (touch_bk bk_rw) (nr_bk bk_rw) (.ws hk) (.reg trivial ho (by omega)) hjt (.inl (by simp only [psi]; omega))
    · obtain ⟨a', hgo, m₂, hk⟩ := hmiss e
      exact bookM (tag' := .anch) hRes ha hcom S hk0 hgo (.refl Wg _) hwg (touch_bk bk_rd) (nr_bk bk_rd) (.anch hA1 hA2 hk) (hmode.reopen trivial trivial rfl (by simp)) hjt (.inl (by simp only [psi]; omega))
  · obtain ⟨a', w', es, hgo, hD, hg'⟩ := hstep w (rm_refl w)
    exact idleM hRes ha hcom S hk0 hwg hmode hjt hgo hD (.cs hA1 hA2 hg') (by omega)

omit hn in
theorem wsStep (hcom : PCom P ty o Wg C n SB Res j gs w t D q 1) (hmode : Mo j (xd D) .ws st sm) (hjt : JT n .ws j)
    (h : Goes P true (RM ty Wg FM) DC0 (AtMk P (.write (smA Wg)) (MG P ty Wg FM (AtSem P ty Wg FM K))) f0 a w) :
    Out P ty o Wg C n SB Res K L0 w0 gs w sl t 0 (psi n (Vc j (xd D)) .ws + SSum j D, ranks n D .leaf, f0 + 2 * FSum j D + 2 * sumTo o q) := by
  rcases Goes.cases h with hstop | ⟨m', rfl, hstep⟩
  · obtain ⟨_, a', hgo, m₂, hk⟩ := hstop w (rm_refl w)
    refine bookM (tag' := .sm) hRes ha hcom S hk0 hgo (.refl Wg _) hwg (touch_said (.inr rfl)) (nr_mk (by simp)) (.sm hk) ?_ hjt (.inl (by simp only [psi]; omega))
    cases hmode with
    | opn h1 _ _ => exact h1.elim
    | reg h1 h2 h3 => exact .reg trivial h2 h3
    | last L h1 h2 h3 h4 => exact .last L trivial h2 h3 h4
    | sema h1 h2 => exact .sema (.inr rfl) h2
    | fin h1 _ => exact h1.elim
  · obtain ⟨a', w', es, hgo, hD, hg'⟩ := hstep w (rm_refl w)
    exact idleM hRes ha hcom S hk0 hwg hmode hjt hgo hD (.ws hg') (by omega)
end
end

end Go.Proofs.YtkpekiajdlolnabGreat.Ph

/-
  THE PHASE, eighteenth text: the semaphore; out of Wait; THE go STATEMENT; the starter's own walk.
-/
namespace Go.Proofs.YtkpekiajdlolnabGreat.Ph
open Go Go.Conc Go.ConcN Go.Proofs.YtkpekiajdlolnabGreat.Sim
open Go.ConcR (KK WgAt stA smA rd wr mk Payload DC0 g_of_ofEvents Bk bk_of_mute ofEvent_loc_mark ofEvent_cell)

section
variable [Payload] {P : Program} {ty : TypeId} {o Wg C n : Nat} {SB : Blocks} {Res : Nat → Blocks → Value → World → Prop} {K : Goroutine → World → Prop} {L0 : Nat} {w0 : World} {gs : Array Goroutine} {w w' : World} {sl : Option (Nat × Nat)} {j : Nat} {D : Nat → WX} {q : Nat → Nat} {tag tag' : Tag} {f0 f' d0 : Nat} {rk rk' : Rank} {FM OM FM' OM' : Blocks} {a a' : Goroutine} {t : Trace} {st sm st' sm' : Int} {es : Array Event}
variable (hRes : ∀ i F v w w1, Res i F v w → Ext F w w1 → Res i F v w1) (ha : gs[0]? = some a) (hk0 : Kept Wg C L0 w0 j D OM w) (S : Sep Wg C SB j D FM OM w) (hwg : WgAt ty Wg w st sm)
include hRes ha hk0 S hwg

theorem smStep (hcom : PCom P ty o Wg C n SB Res j gs w t D q 1) (hmode : Mo j (xd D) .sm st sm) (hjt : JT n .sm j)
    (h : Goes P true (RM ty Wg FM) DC0 (AtSem P ty Wg FM K) f0 a w) :
    Out P ty o Wg C n SB Res K L0 w0 gs w sl t 0 (psi n (Vc j (xd D)) .sm + SSum j D, ranks n D .leaf, (f0 + 1) + 2 * FSum j D + 2 * sumTo o q) := by
  rcases Goes.cases h with hstop | ⟨m', rfl, hstep⟩
  · obtain ⟨_, hoff, hblk, htake⟩ := hstop w (rm_refl w)
    have nil : ∀ e ∈ (#[] : Array Event), ∀ y, (MemAct.ofEvent e).touch? = some y → ∃ b, y.loc = .cell b ∧ b.block = Wg ∧ y.kind ≠ .plain := by simp
    cases hmode with
    | opn h1 _ _ => exact h1.elim
    | reg h1 h2 h3 => exact bookM (tag' := .blk) (f' := 0) hRes ha hcom S hk0 (hblk ⟨_, hwg⟩) (.refl Wg w) hwg nil (by simp) (.blk hstop) (.reg trivial h2 h3) hjt (.inr ⟨rfl, rfl, by omega⟩)
    | last L h1 h2 h3 h4 => exact bookM (tag' := .blk) (f' := 0) hRes ha hcom S hk0 (hblk ⟨_, hwg⟩) (.refl Wg w) hwg nil (by simp) (.blk hstop) (.last L trivial h2 h3 h4) hjt (.inr ⟨rfl, rfl, by omega⟩)
    | sema h1 h2 =>
      obtain ⟨a', hgo, m₂, hk⟩ := htake hwg
      exact bookM (tag' := .l2) hRes ha hcom S hk0 hgo (aside_setCell w (smA Wg) _) (hwg.setSm 0) (touch_bk bk_sem) (nr_bk bk_sem) (.l2 hk) (.fin trivial h2) hjt (.inl (by simp only [psi]; omega))
    | fin h1 _ => exact h1.elim
  · obtain ⟨a', w', es, hgo, hD, hg'⟩ := hstep w (rm_refl w)
    obtain ⟨rfl, rfl⟩ := hD
    exact bookM (tag' := .sm) (f' := m' + 1) hRes ha hcom S hk0 hgo (.refl Wg _) hwg (by simp) (by simp) (.sm hg') hmode hjt (.inr ⟨rfl, rfl, by omega⟩)

theorem l2Step (hcom : PCom P ty o Wg C n SB Res j gs w t D q 1) (hmode : Mo j (xd D) .l2 st sm) (hjt : JT n .l2 j)
    (h : Goes P true (RM ty Wg FM) DC0 (AtLd2 P ty Wg FM K) f0 a w) :
    Out P ty o Wg C n SB Res K L0 w0 gs w sl t 0 (psi n (Vc j (xd D)) .l2 + SSum j D, ranks n D .leaf, f0 + 2 * FSum j D + 2 * sumTo o q) := by
  rcases Goes.cases h with hstop | ⟨m', rfl, hstep⟩
  · obtain ⟨_, hx⟩ := hstop w (rm_refl w)
    obtain ⟨hq, rfl, rfl⟩ := hmode.fin_inv trivial
    obtain ⟨a', hgo, m₂, hk⟩ := hx hwg
    exact bookM (tag' := .en2) hRes ha hcom S hk0 hgo (.refl Wg _) hwg (touch_bk bk_rd) (nr_bk bk_rd) (.en2 hk) (.fin trivial hq) hjt (.inl (by simp only [psi]; omega))
  · obtain ⟨a', w', es, hgo, hD, hg'⟩ := hstep w (rm_refl w)
    exact idleM hRes ha hcom S hk0 hwg hmode hjt hgo hD (.l2 hg') (by omega)

theorem en2Step (hcom : PCom P ty o Wg C n SB Res j gs w t D q 1) (hmode : Mo j (xd D) .en2 st sm) (hjt : JT n .en2 j)
    (h : Goes P true (RM ty Wg FM) DC0 (AtMk P .enable (MG P ty Wg FM (AtMk P (.acquire (stA Wg)) K))) f0 a w) :
    Out P ty o Wg C n SB Res K L0 w0 gs w sl t 0 (psi n (Vc j (xd D)) .en2 + SSum j D, ranks n D .leaf, f0 + 2 * FSum j D + 2 * sumTo o q) := by
  rcases Goes.cases h with hstop | ⟨m', rfl, hstep⟩
  · obtain ⟨_, a', hgo, m₂, hk⟩ := hstop w (rm_refl w)
    obtain ⟨hq, rfl, rfl⟩ := hmode.fin_inv trivial
    exact bookM (tag' := .acq) hRes ha hcom S hk0 hgo (.refl Wg _) hwg (touch_bk bk_en) (nr_bk bk_en) (.acq hk) (.fin trivial hq) hjt (.inl (by simp only [psi]; omega))
  · obtain ⟨a', w', es, hgo, hD, hg'⟩ := hstep w (rm_refl w)
    exact idleM hRes ha hcom S hk0 hwg hmode hjt hgo hD (.en2 hg') (by omega)

/-- THE go STATEMENT. -/
theorem goStep {r : Nat} (hcom : PCom P ty o Wg C n SB Res j gs w t D q 0) (hmode : Mo j (xd D) (.gos r) st sm) (hjt : JT n (.gos r) j) (hr : r < n)
    (h : Goes P true (RM ty Wg FM) DC0 (AtGoM P ty Wg C n Res (n - (r + 1)) FM fun g' w => WG P true (Scr P ty Wg C n Res K r) FM (fun _ => False) g' w) f0 a w) :
    Out P ty o Wg C n SB Res K L0 w0 gs w sl t 0 (psi n (Vc j (xd D)) (.gos r) + SSum j D, ranks n D .leaf, f0 + 2 * FSum j D + 2 * sumTo o q) := by
  rcases Goes.cases h with hstop | ⟨m', rfl, hstep⟩
  · obtain ⟨_, a', child, hsp, hcr, hwk0, rk2, hnext⟩ := hstop w (rm_refl w)
    have hj1 : j + r + 1 = n := hjt
    have ej : n - (r + 1) = j := by omega
    rw [ej] at hwk0
    obtain ⟨F, hF, rkw, hwk⟩ := hwk0 hcom.pay
    obtain ⟨ho, rfl, rfl, _⟩ := hmode.open_inv trivial
    have hop := hcom.opos
    let x : WX := ⟨9, 0, 0, rkw, F, fun _ => False, .bool false⟩
    have S' : Sep Wg C SB (j + 1) (upd D j x) FM (fun _ => False) w := by
      refine ⟨fun i hi b hb => ?_, fun i hi b hb => ?_, fun i1 i2 h1 h2 hne b hb hb2 => ?_, fun b hb => ?_, fun _ h => h.elim, S.lW, S.lC, S.lS, S.hCW, S.sW, S.sC⟩
      · by_cases e : i = j
        · subst e; rw [upd_same] at hb; have := S.mF b (hF b hb); exact ⟨this.1, this.2.1, this.2.2.1, this.2.2.2.1⟩
        · rw [upd_ne D _ e] at hb; exact S.wF i (by omega) b hb
      · by_cases e : i = j
        · subst e; rw [upd_same] at hb; exact hb.elim
        · rw [upd_ne D _ e] at hb ⊢; exact S.wO i (by omega) b hb
      · by_cases e : i1 = j
        · subst e; rw [upd_same] at hb; exact hb.elim
        · rw [upd_ne D _ e] at hb
          by_cases e2 : i2 = j
          · subst e2; rw [upd_same] at hb2; exact (S.mF b (hF b hb2)).2.2.2.2 i1 (by omega) hb
          · rw [upd_ne D _ e2] at hb2; exact S.apart i1 i2 (by omega) (by omega) hne b hb hb2
      · have := S.mF b hb
        refine ⟨this.1, this.2.1, this.2.2.1, this.2.2.2.1, fun i hi hO => ?_⟩
        by_cases e : i = j
        · subst e; rw [upd_same] at hO; exact hO.elim
        · rw [upd_ne D _ e] at hO; exact this.2.2.2.2 i (by omega) hO
    have hrun' := runT_crowd_spawn (P := P) (sl := sl) (i := 0) ha (by simpa using hsp)
    rw [hcom.size] at hrun'
    have hcom' := hcom.spawn S' (a' := a') (child := child) rfl rfl (.own (by rw [show (9 : Nat) = 9 from rfl]) rfl rfl hwk) (fn := a.frame.fn) (pos := a.frame.place) (fn' := child.frame.fn) (pos' := a.frame.place)
    have ex : xd (upd D j x) = upd (xd D) j ⟨7, 0, 0⟩ := by rw [xd_upd]; rfl
    have eV : Vc (j + 1) (xd (upd D j x)) = Vc j (xd D) + 1 := by
      rw [ex]
      simp only [Vc, sumTo, upd_same]
      rw [sumTo_upd_out (xd D) _ cnt (Nat.le_refl _)]; rfl
    have eS : SSum (j + 1) (upd D j x) = SSum j D + 9 := by
      simp only [SSum, sumTo, upd_same]
      rw [sumTo_upd_out D _ WX.stage (Nat.le_refl _)]
    have ho' : OpenSt (j + 1) (xd (upd D j x)) := fun i hi => by
      rw [ex]
      by_cases e : i = j
      · subst e; rw [upd_same]; simp
      · rw [upd_ne (xd D) _ e]; exact ho i (by omega)
    have ha' : ((gs.setIfInBounds 0 a').push child)[0]? = some a' := by
      have hs0 : 0 < (gs.setIfInBounds 0 a').size := by simp [hcom.size]; omega
      rw [Array.getElem?_push_lt hs0]
      simp
    have hk1 : Kept Wg C L0 w0 (j + 1) (upd D j x) (fun _ => False) w := by
      refine ⟨hk0.keep, hk0.lW, hk0.lC, fun i hi b hb => ?_, fun _ h => h.elim, hk0.tape, hk0.os, hk0.output, hk0.nb⟩
      by_cases e : i = j
      · subst e; rw [upd_same] at hb; exact hb.elim
      · rw [upd_ne D _ e] at hb; exact hk0.lO i (by omega) b hb
    refine ⟨_, _, _, hrun', ?_, _, w, sl, j + 1, upd D j x, q, .wg r, 0, 0, rk2, FM, fun _ => False, a', _, _, rfl, ha', .wg (by omega) hnext, ?_, S', hwg, ?_, (by show j + 1 + r = n; omega), hk1, rfl⟩
    · refine Prod.Lex.left _ _ ?_
      rw [eS]
      simp only [psi]
      omega
    · exact hcom'
    · have e : ((Vc j (xd D) + pendT (.gos r) : Nat) : Int) * KK = ((Vc (j + 1) (xd (upd D j x)) + pendT (.wg r) : Nat) : Int) * KK := by rw [eV]; simp [pendT]
      rw [e]
      exact .opn trivial ho' (by simp)
  · obtain ⟨a', w', es, hgo, hD, hg'⟩ := hstep w (rm_refl w)
    exact idleM hRes ha hcom S hk0 hwg hmode hjt hgo hD (.gos hr hg') (by omega)

/-- THE STARTER's OWN WALK. -/
theorem wgStep {r : Nat} {f : World → Rank} (hcom : PCom P ty o Wg C n SB Res j gs w t D q 0) (hmode : Mo j (xd D) (.wg r) st sm) (hjt : JT n (.wg r) j) (hr : r ≤ n)
    (h : WGo P true (Scr P ty Wg C n Res K r) (.node f) FM OM a w) :
    Out P ty o Wg C n SB Res K L0 w0 gs w sl t 0 (psi n (Vc j (xd D)) (.wg r) + SSum j D, ranks n D (.node f), 0 + 2 * FSum j D + 2 * sumTo o q) := by
  obtain ⟨FM', OM', a', w', es, hgo, ok, hw'⟩ := h.2 w (Ext.refl ..)
  have lW := S.lW
  have lC := S.lC
  have nO : ∀ b, OM b → b ≠ Wg ∧ b ≠ C := fun b hb => ⟨(S.mF b (S.mO b hb).1).2.1, (S.mF b (S.mO b hb).1).2.2.1⟩
  have hW : w'.heap[Wg]? = w.heap[Wg]? := ok.keep Wg lW fun h => (nO Wg h).1 rfl
  have hC : w'.heap[C]? = w.heap[C]? := ok.keep C lC fun h => (nO C h).2 rfl
  have hwg' : WgAt ty Wg w' st sm := by unfold WgAt at *; rw [hW]; exact hwg
  have hsz := ok.size
  have S' : Sep Wg C SB j D FM' OM' w' := by
    refine ⟨fun i hi b hb => let x := S.wF i hi b hb; ⟨Nat.lt_of_lt_of_le x.1 hsz, x.2⟩, S.wO, S.apart, fun b hb => ?_, fun b hb => ⟨ok.own b hb, fun i hi hf => ?_⟩, Nat.lt_of_lt_of_le S.lW hsz, Nat.lt_of_lt_of_le S.lC hsz, fun b hb => Nat.lt_of_lt_of_le (S.lS b hb) hsz, S.hCW, S.sW, S.sC⟩
    · refine ⟨ok.low b hb, ?_⟩
      rcases ok.new b hb with h | h
      · exact (S.mF b h).2
      · exact ⟨by omega, by omega, fun hs => by have := S.lS b hs; omega, fun i hi ho => by have := (S.wF i hi b (S.wO i hi b ho)).1; omega⟩
    · rcases ok.newO b hb with h | h
      · exact (S.mO b h).2 i hi hf
      · have := (S.wF i hi b hf).1; omega
  have hms' : MS P ty Wg C n Res K (.wg r) 0 (deafBehind 0 es) (f w) FM' OM' a' w' := by
    rw [deafBehind_idle (fun e he => ⟨(evF_facts (Wg := Wg) (ok.ev e he) ok.low).1, (evF_facts (Wg := Wg) (ok.ev e he) ok.low).2.1⟩) 0]
    exact .wg hr hw'
  refine callerStep hRes ha hcom S hgo (tag' := .wg r) (f' := 0) hms' S'
    (fun i hi => ⟨⟨hsz, fun b hb => ok.keep b (S.wF i hi b hb).1 fun ho => (S.mO b ho).2 i hi hb⟩, rw_same hW hC⟩) hsz (fun op hop => ?_) (fun e he y hy => (touch_evF (ok.ev e he) hy).1)
    (fun e he => (evF_facts (Wg := Wg) (ok.ev e he) ok.low).2.2.1) (fun e he => lowT_of (evF_facts (Wg := Wg) (ok.ev e he) ok.low).2.2.2) ?_ hwg' hmode hjt ?_ (.inr (.inl ⟨rfl, ⟨w, rfl⟩⟩))
  · obtain ⟨e, he, rfl⟩ := Go.Conc.mem_ofEvents hop
    refine ⟨rfl, fun y hy => .inr ?_⟩
    obtain ⟨h1, h2, h3, h4⟩ := touch_evF (ok.ev e he) hy
    have hnb : ∀ {b : Nat}, FM' b → b ≠ Wg ∧ b ≠ C ∧ ¬ SB b ∧ ∀ i, i < j → ¬ (D i).O b := fun hb => (S'.mF _ hb).2
    have inF : ∀ {B : Blocks} {l : Loc}, locIn B l → ∃ b, B b ∧ ((∃ a, l = .cell a ∧ a.block = b) ∨ l = .obj b) := by
      intro B l hl
      cases l with
      | cell a => exact ⟨_, hl, .inl ⟨a, rfl, rfl⟩⟩
      | obj r => exact ⟨_, hl, .inr rfl⟩
      | _ => exact hl.elim
    have same : ∀ {b b' : Nat} {l : Loc}, ((∃ a : Addr, l = .cell a ∧ a.block = b) ∨ l = .obj b) → ((∃ a : Addr, l = .cell a ∧ a.block = b') ∨ l = .obj b') → b = b' := by
      intro b b' l h1 h2
      rcases h1 with ⟨a, rfl, rfl⟩ | rfl
      · rcases h2 with ⟨a', e, rfl⟩ | e
        · cases e; rfl
        · cases e
      · rcases h2 with ⟨a', e, rfl⟩ | e
        · cases e
        · cases e; rfl
    obtain ⟨b, hb, hl⟩ := inF h3
    have hb' := hnb hb
    refine ⟨?_, fun k k1 kj => ?_, fun hwr k k1 kj => ?_⟩
    · rintro ⟨c, hc, hs⟩
      rw [hc] at hl
      rcases hl with ⟨a1, e, rfl⟩ | e
      · cases e
        rcases hs with hs | hs
        · exact hb'.2.2.1 hs
        · exact hb'.1 hs
      · cases e
    · rintro ⟨i, hi, rfl, h5⟩
      rcases h5 with h5 | h5
      · obtain ⟨b', hb2, hl2⟩ := inF h5
        obtain rfl := same hl hl2
        exact hb'.2.2.2 i hi hb2
      · rw [h5] at hl
        rcases hl with ⟨a1, e, rfl⟩ | e
        · cases e; exact hb'.2.1 rfl
        · cases e
    · rintro ⟨i, hi, rfl, h5⟩
      obtain ⟨b', ⟨hb2, _⟩, hl2⟩ := inF h5
      obtain ⟨b3, hb3, hl3⟩ := inF (h4 hwr)
      obtain rfl := same hl hl2
      obtain rfl := same hl hl3
      exact (S'.mO _ hb3).2 i hi hb2
  · obtain ⟨cs, h1, h2⟩ := hcom.pay
    exact ⟨cs, by rw [hC]; exact h1, h2⟩
  · refine ⟨fun b hb => (ok.keep b (by have := hk0.lW; omega) fun ho => by have := hk0.lM b ho; omega).trans (hk0.keep b hb), hk0.lW, hk0.lC, hk0.lO, fun b hb => ?_, ok.tape.trans hk0.tape, ok.os.trans hk0.os, ok.output.trans hk0.output, fun x => ok.nb (hk0.nb x)⟩
    rcases ok.newO b hb with h | h
    · exact hk0.lM b h
    · have := hk0.lW; omega
end

end Go.Proofs.YtkpekiajdlolnabGreat.Ph

/-
  THE PHASE, nineteenth text: THE JOIN; THE PHASE WHOLE.
-/
namespace Go.Proofs.YtkpekiajdlolnabGreat.Ph
open Go Go.Conc Go.ConcN Go.Proofs.YtkpekiajdlolnabGreat.Sim
open Go.ConcR (KK WgAt stA smA rd wr mk Payload DC0 g_of_ofEvents Bk bk_of_mute ofEvent_loc_mark ofEvent_cell ofEvent_mk)

section
variable {o Wg C n : Nat} {SB : Blocks} {D : Nat → WX} {w : World} {t : Trace}
theorem joined_past (tr : TInv o Wg C SB n D w t) (ho : 0 < o) {q : Nat} (hq : t.act? q = some (.mark (.acquire (stA Wg)))) (hg : t.g? q = some 0) (hh : t.heard q) (all : ∀ i, i < n → ∃ r, RelBy (stA Wg) t (o + i) r ∧ r < q) (h0 : Deaf t 0 = 0) :
    PastW (fun b => SB b ∨ b = Wg) w (o + n) t := by
  obtain ⟨p, p0, p1, p2⟩ := tr.norel
  have late : ∀ {i g : Nat}, t.g? i = some g → o ≤ g → t.counts i → HappensBefore t i q := by
    intro i g hgi hle hc
    obtain ⟨op, hop, rfl⟩ := Option.map_eq_some_iff.1 hgi
    have hb := tr.ct.gs i op hop
    obtain ⟨r, hr, hrq⟩ := all (op.g - o) (by omega)
    rw [show o + (op.g - o) = op.g by omega] at hr
    have hrp : p ≤ r := Nat.le_of_not_lt fun h => by have := p1 r _ h hr.g; omega
    have he : HappensBefore t r q := .single (.inr ⟨.marked hrq (.inr hr.act) hq (fun k hk _ => p2 k (by omega)), hr.heard, hh⟩)
    have hle : i ≤ r := Nat.le_of_not_lt fun hlt => hr.after i hlt hgi hc
    rcases Nat.lt_or_ge i r with hlt | hge
    · exact .trans (.single (.inl ⟨hlt, op.g, hgi, hr.g⟩)) he
    · obtain rfl : i = r := by omega
      exact he
  obtain ⟨B, hB⟩ := low_all t
  refine ⟨⟨B, tr.ct.nr, fun i a ha hm => ?_, fun i g hgi hne hc => ?_, h0, hB⟩, tr.seen, tr.mem, tr.ct.quiet, fun op hop => ?_⟩
  · rcases tr.known i a ha with h | h | ⟨g, h1, h2, h3⟩
    · exact .inl h
    · exact .inr h
    · refine .inl ?_
      obtain ⟨z, hz, hz0⟩ := Option.map_eq_some_iff.1 hg
      exact ⟨q, z, hz, hz0, .inr (late h1 h2 ⟨a, ha, hm, .inl h3⟩)⟩
  · rcases Nat.lt_or_ge g o with hlt | hge
    · exact tr.hand i g hgi hne hlt hc
    · exact ⟨q, hg, late hgi hge hc⟩
  · obtain ⟨i, hi, rfl⟩ := Array.mem_iff_getElem.1 hop
    have := tr.ct.gs i _ (Array.getElem?_eq_getElem hi)
    omega
end

section
variable [Payload] (P : Program) (ty : TypeId) (o Wg C n : Nat) (SB : Blocks) (Res : Nat → Blocks → Value → World → Prop) (K : Goroutine → World → Prop) (L0 : Nat) (w0 : World)
/-- WHAT THE PHASE LEAVES. -/
structure Joined (gs : Array Goroutine) (a : Goroutine) (w : World) (t : Trace) (D : Nat → WX) (FM : Blocks) (q : Nat → Nat) : Prop where
  size : gs.size = o + n
  main : gs[0]? = some a
  k : K a w
  leavers : Leavers P t gs q
  past : PastW (fun b => SB b ∨ b = Wg) w gs.size t
  res : ∀ i, i < n → Res i (D i).F (D i).val w ∧ Has C i (D i).val w
  pay : PayAt C n w
  sep : Sep Wg C SB n D FM (fun _ => False) w
  kept : Kept Wg C L0 w0 n D (fun _ => False) w
end

section
variable [Payload] {P : Program} {ty : TypeId} {o Wg C n : Nat} {SB : Blocks} {Res : Nat → Blocks → Value → World → Prop} {K : Goroutine → World → Prop} {L0 : Nat} {w0 : World} {gs : Array Goroutine} {w w' : World} {sl : Option (Nat × Nat)} {j : Nat} {D : Nat → WX} {q : Nat → Nat} {tag tag' : Tag} {f0 f' d0 : Nat} {rk rk' : Rank} {FM OM FM' OM' : Blocks} {a a' : Goroutine} {t : Trace} {st sm st' sm' : Int} {es : Array Event}

section
variable (hRes : ∀ i F v w w1, Res i F v w → Ext F w w1 → Res i F v w1) (ha : gs[0]? = some a) (hk0 : Kept Wg C L0 w0 j D OM w) (S : Sep Wg C SB j D FM OM w) (hwg : WgAt ty Wg w st sm)
include hRes ha hk0 S hwg

theorem acqStep (hcom : PCom P ty o Wg C n SB Res j gs w t D q 0) (hmode : Mo j (xd D) .acq st sm) (hjt : JT n .acq j)
    (h : Goes P true (RM ty Wg FM) DC0 (AtMk P (.acquire (stA Wg)) K) f0 a w) :
    (∃ gs' a' ops q', runT P (crowd gs w sl) 0 = (.next (crowd gs' w sl), ops) ∧ Joined P o Wg C n SB Res K L0 w0 gs' a' w (t ++ ops) D FM q') ∨
    Out P ty o Wg C n SB Res K L0 w0 gs w sl t 0 (psi n (Vc j (xd D)) .acq + SSum j D, ranks n D .leaf, f0 + 2 * FSum j D + 2 * sumTo o q) := by
  rcases Goes.cases h with hstop | ⟨m', rfl, hstep⟩
  · left
    obtain ⟨_, a', hgo, hk⟩ := hstop w (rm_refl w)
    obtain ⟨hq, rfl, rfl⟩ := hmode.fin_inv trivial
    obtain rfl : j = n := hjt
    have hop := hcom.opos
    have hst : ∀ i, i < j → (D i).stage = 1 := fun i hi => by
      have := hq i hi
      simp only [xd] at this
      split at this
      · omega
      · exact this
    have hrun := runT_crowd_go (P := P) (sl := sl) (i := 0) ha (show stepG P (0 == 0) a w = _ from hgo)
    have hcom' := hcom.step0 (fn := a.frame.fn) (pos := a.frame.place) hRes S (es := #[mk (.acquire (stA Wg))]) (w' := w) (a := a) (a' := a') (fun i hi => ⟨Ext.refl .., RW.refl w⟩) (Nat.le_refl _)
      (ok0P_of_touch (by intro e he y hy; simp at he; subst he; cases hy)) (by intro e he y hy; simp at he; subst he; cases hy) (nr_mk (by simp)) (by intro e he y hy; simp at he; subst he; cases hy) hcom.pay
    have e1 : MemOp.ofEvents 0 a.frame.fn a.frame.place #[mk (.acquire (stA Wg))] = #[{ g := 0, fn := a.frame.fn, pos := a.frame.place, act := .mark (.acquire (stA Wg)) }] := by rw [ofEvents_eq]; simp [ofEvent_mk]
    have hy : (t ++ #[({ g := 0, fn := a.frame.fn, pos := a.frame.place, act := .mark (.acquire (stA Wg)) } : MemOp)])[t.size]? = some { g := 0, fn := a.frame.fn, pos := a.frame.place, act := .mark (.acquire (stA Wg)) } := by simp
    have hP := joined_past hcom'.tr hop (q := t.size) (by rw [e1, act?_of hy]) (by rw [e1]; simp [Trace.g?]) (by rw [e1]; exact ⟨0, by simp [Trace.g?], by rw [deaf_old (Nat.le_refl _)]; exact hcom.deaf0⟩)
      (fun i hi => by
        obtain ⟨r, hr⟩ := hcom.rel i hi (by rw [hst i hi]; omega)
        exact ⟨r, hr.appOther g_of_ofEvents (by omega), lt_of_act? hr.act⟩) (by rw [hcom'.deaf0]; rfl)
    have wkq : ∀ i, i < j → ∃ g, ((gs.map (woken P a a' w)).setIfInBounds 0 a')[o + i]? = some g ∧ QuitsD P (D i).fuel (D i).deaf g ∧ Res i (D i).F (D i).val w := fun i hi => by
      obtain ⟨g, hg, hs⟩ := hcom'.wk i hi
      have h1 := hst i hi
      cases hs with
      | own h9 _ _ _ => omega
      | lib h hr => exact ⟨g, hg, h.quits h1, hr⟩
    refine ⟨_, a', _, fun i => if i < o then q i else (D (i - o)).fuel, hrun, by simp [hcom.size], get_map_set_same _ _ _ (by rw [hcom.size]; omega), hk, ⟨fun i g h0 hg => ?_, fun k hk' => ?_⟩, ?_, fun i hi => ⟨?_, ?_⟩, hcom.pay, S.none, hk0.none⟩
    · show QuitsD P (if i < o then q i else (D (i - o)).fuel) _ g
      by_cases hlt : i < o
      · rw [if_pos hlt]; exact hcom'.old i g h0 hlt hg
      · rw [if_neg hlt]
        have hi : i < o + j := by have := (Array.getElem?_eq_some_iff.1 hg).1; rw [hcom'.size] at this; exact this
        obtain ⟨g', hg', hq', _⟩ := wkq (i - o) (by omega)
        rw [show o + (i - o) = i by omega] at hg'
        obtain rfl : g = g' := by rw [hg] at hg'; exact Option.some.inj hg'
        have := hcom'.deafW (i - o) (by omega)
        rw [show o + (i - o) = i by omega] at this
        rw [this]; exact hq'
    · rw [hcom'.size] at hk'; exact hcom'.above k hk'
    · rw [hcom'.size]; exact hP
    · exact (wkq i hi).choose_spec.2.2
    · exact hcom.has i hi (by rw [hst i hi]; omega)
  · right
    obtain ⟨a', w', es, hgo, hD, hg'⟩ := hstep w (rm_refl w)
    exact idleM hRes ha hcom S hk0 hwg hmode hjt hgo hD (.acq hg') (by omega)
end

theorem WS.running_of {i : Nat} {d : WX} {g : Goroutine} (h : WS P ty Wg C n Res i d g w) (hs : d.stage ≠ 1) : g.status = .running := by
  cases h with
  | own h1 h2 h3 h => exact wgo_run (fun _ _ _ _ x => x.1) h
  | lib h hr => exact h.running_of hs

/-- NO DEADLOCK. -/
theorem someone_runs (ha : gs[0]? = some a) (hms : MS P ty Wg C n Res K tag f0 d0 rk FM OM a w) (hcom : PCom P ty o Wg C n SB Res j gs w t D q d0) (hmode : Mo j (xd D) tag st sm) :
    ∃ (i : Nat) (g : Goroutine), gs[i]? = some g ∧ g.status = .running := by
  rcases hms.status with ⟨hs, _⟩ | ⟨_, rfl⟩
  · exact ⟨0, a, ha, hs⟩
  · have xs : ∀ {i : Nat}, (xd D i).stage ≠ 1 → (D i).stage ≠ 1 := fun {i} h e => h (by simp only [xd, e]; rfl)
    cases hmode with
    | opn h1 _ _ => exact h1.elim
    | reg _ _ h3 =>
      obtain ⟨i, hi, h5⟩ := exists_counted h3
      obtain ⟨g, hg, hs⟩ := hcom.wk i hi
      exact ⟨o + i, g, hg, hs.running_of (xs (by omega))⟩
    | last L _ h2 h3 _ =>
      obtain ⟨g, hg, hs⟩ := hcom.wk L h2
      exact ⟨o + L, g, hg, hs.running_of (xs (by omega))⟩
    | sema h1 _ => rcases h1 with h1 | h1 <;> cases h1
    | fin h1 _ => exact h1.elim

theorem all_awake (ha : gs[0]? = some a) (hms : MS P ty Wg C n Res K tag f0 d0 rk FM OM a w) (hcom : PCom P ty o Wg C n SB Res j gs w t D q d0) : ∀ g ∈ gs, awake g := by
  intro g hg tm
  obtain ⟨i, hi⟩ := Array.mem_iff_getElem?.1 hg
  rcases Nat.eq_zero_or_pos i with rfl | hpos
  · rw [ha] at hi; cases hi
    rcases hms.status with ⟨hs, _⟩ | ⟨hs, _⟩ <;> rw [hs] <;> simp
  · by_cases hlt : i < o
    · rcases (hcom.old i g hpos hlt hi).status with h | h <;> rw [h] <;> simp
    · have hi2 : i < o + j := by have := (Array.getElem?_eq_some_iff.1 hi).1; rw [hcom.size] at this; exact this
      obtain ⟨g', hg', hs⟩ := hcom.wk (i - o) (by omega)
      rw [show o + (i - o) = i by omega] at hg'
      rw [hi] at hg'; cases hg'
      rcases hs.status with h | h <;> rw [h] <;> simp

/-- A STEP OF THE MACHINE's. -/
theorem phase_step (hRes : ∀ i F v w w1, Res i F v w → Ext F w w1 → Res i F v w1) (hn : n < 2147483648) : ∀ (μ : Mea) (m : Machine) (t : Trace), PInv P ty o Wg C n SB Res K L0 w0 μ m t →
    (∃ gs' a' w' sl' ops D FM q', stepT P m = (.next (crowd gs' w' sl'), ops) ∧ Joined P o Wg C n SB Res K L0 w0 gs' a' w' (t ++ ops) D FM q') ∨
    (∃ m' ops μ', stepT P m = (.next m', ops) ∧ MLt (n + 1) μ' μ ∧ PInv P ty o Wg C n SB Res K L0 w0 μ' m' (t ++ ops)) := by
  rintro μ m t ⟨gs, w, sl, j, D, q, tag, f0, d0, rk, FM, OM, a, st, sm, rfl, ha, hms, hcom, S, hwg, hmode, hjt, hk0, rfl⟩
  obtain ⟨i, g, d, sl', hg, hrun, hstep⟩ := crowd_pick (P := P) (w := w) (sl := sl) (all_awake ha hms hcom) (someone_runs ha hms hcom hmode)
  rw [hstep]
  have hms := hms.rely (w1 := w.at d) ⟨⟨Nat.le_refl _, fun _ _ => rfl⟩, fun x => x⟩
  have hcom := hcom.at hRes d
  have hwg : WgAt ty Wg (w.at d) st sm := hwg
  have S : Sep Wg C SB j D FM OM (w.at d) := ⟨S.wF, S.wO, S.apart, S.mF, S.mO, S.lW, S.lC, S.lS, S.hCW, S.sW, S.sC⟩
  have hk0 : Kept Wg C L0 w0 j D OM (w.at d) := ⟨hk0.keep, hk0.lW, hk0.lC, hk0.lO, hk0.lM, hk0.tape, hk0.os, hk0.output, hk0.nb⟩
  generalize w.at d = w at *
  have hop := hcom.opos
  rcases Nat.eq_zero_or_pos i with rfl | hpos
  · obtain rfl : g = a := by rw [ha] at hg; exact (Option.some.inj hg).symm
    cases hms with
    | @wg r _ _ _ _ _ hr h =>
      right
      cases rk with
      | node f => exact wgStep hRes ha hk0 S hwg hcom hmode hjt hr h
      | leaf =>
        have hs := h w (Ext.refl ..)
        cases r with
        | zero =>
          obtain ⟨A, hA1, hA2, m₂, hk⟩ := hs.2 ⟨_, _, hwg⟩
          obtain ⟨m₁, ops, μ', h1, h2, h3⟩ := kdStep (sl := sl') hRes ha hk0 S hwg hA1 hA2 hcom (hmode.reopen trivial trivial rfl (by simp)) hjt hk
          exact ⟨m₁, ops, μ', h1, h2.lt1 (by simp only [psi]; omega), h3⟩
        | succ r =>
          obtain ⟨m₂, hk⟩ := hs.2 ⟨_, _, hwg⟩
          obtain ⟨m₁, ops, μ', h1, h2, h3⟩ := kdSStep (sl := sl') hRes ha hk0 S hwg hcom (hmode.reopen (tag' := .kdS r) trivial trivial rfl (by simp)) (by have : j + (r + 1) = n := hjt; show j + r + 1 = n; omega) (by omega) hk
          exact ⟨m₁, ops, μ', h1, h2.lt1 (by simp only [psi]; omega), h3⟩
    | kdS hr h => exact .inr (kdSStep hRes ha hk0 S hwg hcom hmode hjt hr h)
    | ad hr h => exact .inr (adStep hRes hn ha hk0 S hwg hcom hmode hjt hr h)
    | rs hr h => exact .inr (rsStep hRes ha hk0 S hwg hcom hmode hjt hr h)
    | en hr h => exact .inr (enStep hRes ha hk0 S hwg hcom hmode hjt hr h)
    | gos hr h => exact .inr (goStep hRes ha hk0 S hwg hcom hmode hjt hr h)
    | kd h1 h2 h => exact .inr (kdStep hRes ha hk0 S hwg h1 h2 hcom hmode hjt h)
    | anch h1 h2 h => exact .inr (anchStep hRes hn ha hk0 S hwg h1 h2 hcom hmode hjt h)
    | ld h1 h2 h => exact .inr (ldStep hRes hn ha hk0 S hwg h1 h2 hcom hmode hjt h)
    | cs h1 h2 h => exact .inr (csStep hRes hn ha hk0 S hwg h1 h2 hcom hmode hjt h)
    | ws h => exact .inr (wsStep hRes ha hk0 S hwg hcom hmode hjt h)
    | sm h => exact .inr (smStep hRes ha hk0 S hwg hcom hmode hjt h)
    | blk h => simp at hrun
    | l2 h => exact .inr (l2Step hRes ha hk0 S hwg hcom hmode hjt h)
    | en2 h => exact .inr (en2Step hRes ha hk0 S hwg hcom hmode hjt h)
    | acq h =>
      rcases acqStep (sl := sl') hRes ha hk0 S hwg hcom hmode hjt h with ⟨gs', a', ops, q', h1, h2⟩ | h
      · exact .inl ⟨gs', a', w, sl', ops, D, FM, q', h1, h2⟩
      · exact .inr h
  · right
    by_cases hlt : i < o
    · exact oldStep ha hms hcom S hjt hk0 hwg (fun tag' ht => hmode.retag ht) hpos hlt hg hrun
    · have hi2 : i < o + j := by have := (Array.getElem?_eq_some_iff.1 hg).1; rw [hcom.size] at this; exact this
      obtain ⟨i', rfl⟩ : ∃ i', i = o + i' := ⟨i - o, by omega⟩
      have hi' : i' < j := by omega
      obtain ⟨g', hg', hs⟩ := hcom.wk i' hi'
      obtain rfl : g = g' := by rw [hg] at hg'; exact Option.some.inj hg'
      cases hs with
      | own h9 hd hf hw =>
        generalize hrk : (D i').rank = rkw at hw
        cases rkw with
        | leaf => exact storeStep hRes ha hms hcom S hjt hk0 hwg hmode hi' hg h9 hd (hw w (Ext.refl ..))
        | node f => exact ownStep hRes ha hms hcom S hjt hk0 hwg hmode hi' hg h9 hd hrk hw
      | lib h hr => exact libStep hRes hn ha hms hcom S hjt hk0 hwg hmode hi' hg hrun h hr

/-- ████ THE PHASE, on whatever tape. ████ -/
theorem phase_run (hRes : ∀ i F v w w1, Res i F v w → Ext F w w1 → Res i F v w1) (hn : n < 2147483648) : ∀ (μ : Mea) (m : Machine) (t : Trace), PInv P ty o Wg C n SB Res K L0 w0 μ m t →
    ∃ N gs' a' w' sl' t' D FM q', runNT P N m t = (.next (crowd gs' w' sl'), t') ∧ Joined P o Wg C n SB Res K L0 w0 gs' a' w' t' D FM q' := by
  intro μ
  induction μ using (MLt.wf (n + 1)).induction with
  | _ μ ih =>
    intro m t h
    rcases phase_step hRes hn μ m t h with ⟨gs', a', w', sl', ops, D, FM, q', h1, h2⟩ | ⟨m', ops, μ', h1, h2, h3⟩
    · exact ⟨1, gs', a', w', sl', _, D, FM, q', by simp only [runNT, h1], h2⟩
    · obtain ⟨N, gs', a', w', sl', t', D, FM, q', h4, h5⟩ := ih μ' h2 m' _ h3
      exact ⟨N + 1, gs', a', w', sl', t', D, FM, q', by simp only [runNT, h1]; exact h4, h5⟩
end

end Go.Proofs.YtkpekiajdlolnabGreat.Ph

/-
  THE PHASE, twentieth text: beside leavers until goroutine 0 is picked; silent steps; FROM A FRAME INTO THE PHASE.
-/
namespace Go.Proofs.YtkpekiajdlolnabGreat.Ph
open Go Go.Conc Go.ConcN Go.Proofs.YtkpekiajdlolnabGreat.Sim
open Go.ConcR (KK WgAt stA smA rd wr mk Payload DC0 g_of_ofEvents Bk bk_of_mute ofEvent_loc_mark ofEvent_cell ofEvent_mk)

theorem runNT_trans {P : Program} (a : Nat) {b : Nat} {m m' : Machine} {t t' : Trace} {r : Stepped × Trace} (h : runNT P a m t = (.next m', t')) (k : runNT P b m' t' = r) : runNT P (a + b) m t = r := by
  rw [runNT_add, h]; exact k
theorem at_self (w : World) : w.at w.drawn = w := rfl
theorem Fresh.app {t u : Trace} {l : Loc} (h : Fresh t l) (hu : ∀ op ∈ u, ∀ x, op.act.touch? = some x → x.loc ≠ l) : Fresh (t ++ u) l := by
  intro i a ha
  obtain ⟨op, hop, hox⟩ := touch_of ha
  rcases getElem?_append_cases hop with ⟨hi, hop'⟩ | ⟨_, hopu⟩
  · exact h i a (by rw [touchAt_of hop']; exact hox)
  · exact hu op hopu a hox
theorem PastW.at {SB : Blocks} {w : World} {n : Nat} {t : Trace} (h : PastW SB w n t) (d : Nat) : PastW SB (w.at d) n t := ⟨h.past, h.seen, h.mem, h.quiet, h.gs⟩

section
variable {P : Program} {SB : Blocks}
/-- THE LEAVERS SLIP, UNTIL GOROUTINE 0 IS PICKED. -/
theorem beside_pick : ∀ (M : Nat) (gs : Array Goroutine) (a : Goroutine) (w : World) (sl : Option (Nat × Nat)) (t : Trace) (q : Nat → Nat), sumTo gs.size q ≤ M → gs[0]? = some a → a.status = .running → Leavers P t gs q → PastW SB w gs.size t →
    ∃ (N : Nat) (gs' : Array Goroutine) (sl1 : Option (Nat × Nat)) (d1 : Nat) (sl' : Option (Nat × Nat)) (t' : Trace) (q' : Nat → Nat) (d : Nat),
      runNT P N (crowd gs w sl) t = (.next (crowd gs' (w.at d1) sl1), t') ∧ stepT P (crowd gs' (w.at d1) sl1) = runT P (crowd gs' (w.at d) sl') 0 ∧ gs'.size = gs.size ∧ gs'[0]? = some a ∧ Leavers P t' gs' q' ∧ PastW SB w gs'.size t' ∧ ∀ l, Fresh t l → Fresh t' l := by
  intro M
  induction M with
  | zero | succ M ih =>
    intro gs a w sl t q hM h0 hrun hL hP
    have haw : ∀ g ∈ gs, awake g := by
      intro g hg
      obtain ⟨i, hi, rfl⟩ := Array.mem_iff_getElem.1 hg
      rcases Nat.eq_zero_or_pos i with rfl | hpos
      · have : gs[0] = a := by simpa [Array.getElem?_eq_getElem hi] using h0
        rw [this]; exact awake_of (.inl hrun)
      · exact awake_of ((hL.old i _ hpos (Array.getElem?_eq_getElem hi)).status.elim .inl fun x => .inr (.inr x))
    obtain ⟨i, g, d, sl', hi, hg, hst⟩ := crowd_pick (P := P) (w := w) (sl := sl) haw ⟨0, a, h0, hrun⟩
    rcases Nat.eq_zero_or_pos i with rfl | hpos
    · exact ⟨0, gs, sl, w.drawn, sl', t, q, d, rfl, hst, rfl, h0, hL, hP, fun _ h => h⟩
    · have hq := hL.old i g hpos hi
      have hi0 : (i == 0) = false := by simp; omega
      have hlt : i < gs.size := (Array.getElem?_eq_some_iff.1 hi).1
      cases hqi : q i with
      | zero => rw [hqi] at hq; rw [hq.1] at hg; cases hg
      | succ k =>
        rw [hqi] at hq
        rcases hq with ⟨hf, _⟩ | ⟨_, g', es, hm, hstp, hq'⟩
        · rw [hf] at hg; cases hg
        have hrunT := runT_crowd_go (P := P) (sl := sl') (i := i) hi (by rw [hi0]; exact hstp (w.at d))
        have hsz : ((gs.map (woken P g g' (w.at d))).setIfInBounds i g').size = gs.size := by simp
        have hsum : sumTo gs.size (upd q i k) + (k + 1) = sumTo gs.size q + k := by
          have := sumTo_upd q k id hlt
          simpa [hqi] using this
        first
        | (exfalso; omega)
        | obtain ⟨N, gs', sl1, d1, sl'', t', q', d', hr, hs', hz, h0', hL', hP', hfr⟩ := ih ((gs.map (woken P g g' (w.at d))).setIfInBounds i g') a (w.at d) sl' (t ++ MemOp.ofEvents i g.frame.fn g.frame.place es) (upd q i k) (by rw [hsz]; omega)
            (by
              have hne : i ≠ 0 := by omega
              rw [Array.getElem?_setIfInBounds_ne hne, Array.getElem?_map, h0]
              simp [woken_run hrun]) hrun
            ⟨fun j x hj hx => by
              by_cases hji : i = j
              · subst hji
                rw [Array.getElem?_setIfInBounds_self_of_lt (by simpa using hlt)] at hx
                obtain rfl := Option.some.inj hx
                rw [upd_same, Deaf_own]
                exact hq'
              · rw [Array.getElem?_setIfInBounds_ne hji, Array.getElem?_map] at hx
                obtain ⟨y, hy, rfl⟩ := Option.map_eq_some_iff.1 hx
                have hqj := hL.old j y hj hy
                rw [woken_quitsD hqj, upd_ne q k (Ne.symm hji), Deaf_other t hji _ (fun op hop => by obtain ⟨e, _, rfl⟩ := Go.Conc.mem_ofEvents hop; rfl)]
                exact hqj, fun j hj => by
              rw [Deaf_other t (g' := i) (by simp at hj; omega) _ (fun op hop => by obtain ⟨e, _, rfl⟩ := Go.Conc.mem_ofEvents hop; rfl)]
              exact hL.above j (by simpa using hj)⟩
            (by rw [hsz]; exact (hP.at d).mute (by omega) hlt hm)
          exact ⟨N + 1, gs', sl1, d1, sl'', t', q', d', by simp only [runNT, hst, hrunT]; exact hr, hs', hz.trans hsz, h0', hL', ⟨hP'.past, hP'.seen, hP'.mem, hP'.quiet, hP'.gs⟩,
            fun l hl => hfr l (hl.app fun op hop x hx => by
              obtain ⟨e, he, rfl⟩ := Go.Conc.mem_ofEvents hop
              rw [touch_mute (hm e he)] at hx; cases hx)⟩

/-- what a step of goroutine 0's may list between two phases. -/
def EvZ (SB : Blocks) (B : Nat) (e : Event) : Prop := EvL (ShB SB) B e ∧ ∀ y, (MemAct.ofEvent e).touch? = some y → y.loc.isMemory = true
theorem PastW.evs {w w' : World} {n : Nat} {t : Trace} (h : PastW SB w n t) (hn : 0 < n) (hsz : w.heap.size ≤ w'.heap.size) {es : Array Event} (hes : ∀ e ∈ es, EvZ SB w'.heap.size e) (fn : FuncId) (pos : String) : PastW SB w' n (t ++ MemOp.ofEvents 0 fn pos es) := by
  obtain ⟨B, hP⟩ := h.past
  refine ⟨⟨max B w'.heap.size, (hP.mono (Nat.le_max_left ..)).own fun e he => ?_⟩, seenT_app (fun op hop => (h.seen op hop).mono hsz) (fun op hop => ?_), mem_app h.mem (fun op hop x hx => ?_), h.quiet.app fun op hop x hx hs => ?_, fun op hop => ?_⟩
  · have := (hes e he).1
    exact ⟨this.1, this.2.1, this.2.2.1, MemAct.low_mono (Nat.le_max_right ..) this.2.2.2⟩
  · obtain ⟨e, he, rfl⟩ := Go.Conc.mem_ofEvents hop
    exact lowT_of (hes e he).1.2.2.2
  · obtain ⟨e, he, rfl⟩ := Go.Conc.mem_ofEvents hop
    exact (hes e he).2 x hx
  · obtain ⟨e, he, rfl⟩ := Go.Conc.mem_ofEvents hop
    exact ⟨(hes e he).1.1 x hx hs, fun _ => rfl⟩
  · rcases Array.mem_append.1 hop with h' | h'
    · exact h.gs op h'
    · obtain ⟨e, he, rfl⟩ := Go.Conc.mem_ofEvents h'
      exact hn

/-- ONE STEP OF GOROUTINE 0's BESIDE LEAVERS. -/
theorem beside_one {gs : Array Goroutine} {a : Goroutine} {w : World} {sl : Option (Nat × Nat)} {t : Trace} {q : Nat → Nat} (h0 : gs[0]? = some a) (hrun : a.status = .running) (hL : Leavers P t gs q) (hP : PastW SB w gs.size t)
    (hs : ∀ d, ∃ a' w' es, stepG P true a (w.at d) = .go a' w' es ∧ w.heap.size ≤ w'.heap.size ∧ ∀ e ∈ es, EvZ SB w'.heap.size e) :
    ∃ (N : Nat) (gs' : Array Goroutine) (a' : Goroutine) (d : Nat) (w' : World) (es : Array Event) (sl' : Option (Nat × Nat)) (t' : Trace) (q' : Nat → Nat),
      runNT P N (crowd gs w sl) t = (.next (crowd gs' w' sl'), t') ∧ stepG P true a (w.at d) = .go a' w' es ∧ gs'.size = gs.size ∧ gs'[0]? = some a' ∧ Leavers P t' gs' q' ∧ PastW SB w' gs'.size t' ∧
      ∀ l, Fresh t l → (∀ e ∈ es, ∀ x, (MemAct.ofEvent e).touch? = some x → x.loc ≠ l) → Fresh t' l := by
  obtain ⟨N, gs', sl1, d1, sl', t', q', d, hr, hst, hz, h0', hL', hP', hfr⟩ := beside_pick (P := P) _ gs a w sl t q (Nat.le_refl _) h0 hrun hL hP
  obtain ⟨a', w', es, hgo, hsz, hev⟩ := hs d
  have hrunT := runT_crowd_go (P := P) (sl := sl') (i := 0) h0' (show stepG P (0 == 0) a (w.at d) = _ from hgo)
  have hlt : 0 < gs'.size := (Array.getElem?_eq_some_iff.1 h0').1
  have hsz' : ((gs'.map (woken P a a' w')).setIfInBounds 0 a').size = gs'.size := by simp
  refine ⟨N + 1, (gs'.map (woken P a a' w')).setIfInBounds 0 a', a', d, w', es, sl', t' ++ MemOp.ofEvents 0 a.frame.fn a.frame.place es, q', ?_, hgo, hsz'.trans hz, by simp [hlt], ⟨fun j x hj hx => ?_, fun j hj => ?_⟩, ?_, fun l hl he => ?_⟩
  · rw [show N + 1 = N + 1 from rfl]
    exact runNT_trans _ hr (by simp only [runNT, hst, hrunT])
  · have hne : 0 ≠ j := by omega
    rw [Array.getElem?_setIfInBounds_ne hne, Array.getElem?_map] at hx
    obtain ⟨y, hy, rfl⟩ := Option.map_eq_some_iff.1 hx
    have hq := hL'.old j y hj hy
    rw [woken_quitsD hq, Deaf_other t' (by omega) _ (fun op hop => by obtain ⟨e, _, rfl⟩ := Go.Conc.mem_ofEvents hop; rfl)]
    exact hq
  · rw [Deaf_other t' (g' := 0) (by simp at hj; omega) _ (fun op hop => by obtain ⟨e, _, rfl⟩ := Go.Conc.mem_ofEvents hop; rfl)]
    exact hL'.above j (by simpa using hj)
  · rw [hsz']
    exact (hP'.at d).evs hlt hsz hev _ _
  · refine (hfr l hl).app fun op hop x hx => ?_
    obtain ⟨e, h1, rfl⟩ := Go.Conc.mem_ofEvents hop
    exact he e h1 x hx

/-- SILENT STEPS OF GOROUTINE 0's BESIDE LEAVERS. -/
theorem beside_dc0 {R : World → World → Prop} {Stop : Goroutine → World → Prop} (hR : ∀ w d, R w (w.at d)) (hs : ∀ g w, Stop g w → g.status = .running) : ∀ (n : Nat) (gs : Array Goroutine) (a : Goroutine) (w : World) (sl : Option (Nat × Nat)) (t : Trace) (q : Nat → Nat), gs[0]? = some a → Leavers P t gs q → PastW SB w gs.size t →
      Goes P true R DC0 Stop n a w →
      ∃ (N : Nat) (gs' : Array Goroutine) (a' : Goroutine) (d : Nat) (sl' : Option (Nat × Nat)) (t' : Trace) (q' : Nat → Nat),
        runNT P N (crowd gs w sl) t = (.next (crowd gs' (w.at d) sl'), t') ∧ gs'.size = gs.size ∧ gs'[0]? = some a' ∧ Stop a' (w.at d) ∧ Leavers P t' gs' q' ∧ PastW SB (w.at d) gs'.size t' := by
  intro n
  induction n with
  | zero => exact fun gs a w sl t q h0 hL hP hG => ⟨0, gs, a, w.drawn, sl, t, q, rfl, rfl, h0, hG w (hR w w.drawn), hL, hP⟩
  | succ n ih =>
    intro gs a w sl t q h0 hL hP hG
    rcases hG with hstop | ⟨hrun, hstep⟩
    · exact ⟨0, gs, a, w.drawn, sl, t, q, rfl, rfl, h0, hstop w (hR w w.drawn), hL, hP⟩
    have key : ∀ d, ∃ a', stepG P true a (w.at d) = .go a' (w.at d) #[] ∧ Goes P true R DC0 Stop n a' (w.at d) := fun d => by
      have := hstep (w.at d) (hR w d)
      cases hgo : stepG P true a (w.at d) with
      | go a' w' es =>
        rw [hgo, goes_go] at this
        obtain ⟨⟨rfl, rfl⟩, hG'⟩ := this
        exact ⟨a', rfl, hG'⟩
      | _ => rw [hgo] at this; exact this.elim
    obtain ⟨N, gs1, a1, d, w1, es1, sl1, t1, q1, hr, hgo, hz, h01, hL1, hP1, _⟩ := beside_one (P := P) (SB := SB) (sl := sl) h0 hrun hL hP fun d => let ⟨a', h1, _⟩ := key d; ⟨a', _, _, h1, Nat.le_refl _, by simp⟩
    obtain ⟨a', h1, h2⟩ := key d
    rw [hgo] at h1
    cases h1
    obtain ⟨N', gs', a', d', sl', t', q', hr', hz', h0', hS, hL', hP'⟩ := ih gs1 _ (w.at d) sl1 t1 q1 h01 hL1 hP1 h2
    exact ⟨N + N', gs', a', d', sl', t', q', runNT_trans _ hr hr', hz'.trans hz, h0', hS, hL', hP'⟩
end

section
variable [Payload] {P : Program} {ty : TypeId} {Wg C n : Nat} {SB : Blocks} {Res : Nat → Blocks → Value → World → Prop} {K : Goroutine → World → Prop} {L0 : Nat} {gs : Array Goroutine} {w : World} {sl : Option (Nat × Nat)} {q : Nat → Nat} {F O : Blocks} {a : Goroutine} {t : Trace}

/-- ████ FROM A FRAME THROUGH THE PHASE. ████ -/
theorem phase (hRes : ∀ i F v w w1, Res i F v w → Ext F w w1 → Res i F v w1) (hn : n < 2147483648) (h0 : gs[0]? = some a) (hL : Leavers P t gs q) (hP : PastW SB w gs.size t) (hfr : ∀ x : Addr, x.block = Wg → Fresh t (.cell x))
    (hWG : WG P true (Scr P ty Wg C n Res K n) F O a w) (hwg : WgAt ty Wg w 0 0) (hpay : PayAt C n w) (hF : ∀ b, F b → b < w.heap.size ∧ b ≠ Wg ∧ b ≠ C ∧ ¬ SB b) (hO : ∀ b, O b → F b)
    (lW : Wg < w.heap.size) (lC : C < w.heap.size) (lS : ∀ b, SB b → b < w.heap.size) (hCW : C ≠ Wg) (sW : ¬ SB Wg) (sC : ¬ SB C) (kW : L0 ≤ Wg) (kC : L0 ≤ C) (kO : ∀ b, O b → L0 ≤ b) :
    ∃ N gs' a' w' sl' t' D FM q', runNT P N (crowd gs w sl) t = (.next (crowd gs' w' sl'), t') ∧ Joined P gs.size Wg C n SB Res K L0 w gs' a' w' t' D FM q' := by
  obtain ⟨rk, hWG⟩ := hWG
  have hpos : 0 < gs.size := (Array.getElem?_eq_some_iff.1 h0).1
  obtain ⟨B, hPast⟩ := hP.past
  let D : Nat → WX := fun _ => ⟨0, 0, 0, .leaf, fun _ => False, fun _ => False, .bool false⟩
  have kn : ∀ i x, touchAt t i = some x → ¬ ShP Wg SB x.loc → Knows t 0 i := fun i x hx hs => by
    rcases hPast.known i x hx (hP.mem i x hx) with h | ⟨⟨c, h1, h2⟩, _⟩
    · exact h
    · exact absurd ⟨c, h1, .inl h2⟩ hs
  have tr : TInv gs.size Wg C SB 0 D w t := by
    refine ⟨⟨fun i op x hi hx hs => ?_, fun k k1 kj l ⟨i, hi, _⟩ => absurd hi (Nat.not_lt_zero i), fun k k1 kj l ⟨i, hi, _⟩ => absurd hi (Nat.not_lt_zero i), fun l hs _ i x hx e => kn i x hx (e ▸ hs), fun l hs _ i x hx e _ => kn i x hx (e ▸ hs), hPast.clean, fun i op hi => ?_⟩,
      ⟨t.size, Nat.le_refl _, fun i g hi hg => ?_, fun i hi he => ?_⟩, fun i g hg hne hlt hc => hPast.over i g hg hne hc, fun i x hx => ?_, hP.mem, hP.seen⟩
    · obtain ⟨c, h1, h2 | h2⟩ := hs
      · exact hP.quiet i op x hi hx ⟨c, h1, h2⟩
      · exact absurd h1 (hfr c h2 i x (by rw [touchAt_of hi]; exact hx))
    · have := hP.gs op (Array.mem_of_getElem? hi); omega
    · obtain ⟨op, ho, rfl⟩ := Option.map_eq_some_iff.1 hg
      exact hP.gs op (Array.mem_of_getElem? ho)
    · have := lt_of_act? he; omega
    · rcases hPast.known i x hx (hP.mem i x hx) with h | ⟨⟨c, h1, h2⟩, h3⟩
      · exact .inl h
      · exact .inr (.inl ⟨⟨c, h1, .inl h2⟩, h3⟩)
  have hms : MS P ty Wg C n Res K (.wg n) 0 0 rk F O a w := .wg (Nat.le_refl _) hWG
  have hcom : PCom P ty gs.size Wg C n SB Res 0 gs w t D q 0 := ⟨rfl, fun i g hi _ hg => hL.old i g hi hg, fun i hi => absurd hi (Nat.not_lt_zero i), tr, hPast.hears, fun i hi => absurd hi (Nat.not_lt_zero i), hL.above, fun i hi => absurd hi (Nat.not_lt_zero i), fun i hi => absurd hi (Nat.not_lt_zero i), hpay, hpos⟩
  have S : Sep Wg C SB 0 D F O w := ⟨fun i hi => absurd hi (Nat.not_lt_zero i), fun i hi => absurd hi (Nat.not_lt_zero i), fun i _ hi => absurd hi (Nat.not_lt_zero i), fun b hb => let ⟨h1, h2, h3, h4⟩ := hF b hb; ⟨h1, h2, h3, h4, fun i hi => absurd hi (Nat.not_lt_zero i)⟩, fun b hb => ⟨hO b hb, fun i hi => absurd hi (Nat.not_lt_zero i)⟩, lW, lC, lS, hCW, sW, sC⟩
  have hm : Mo 0 (xd D) (.wg n) 0 0 := by
    have := Mo.opn (j := 0) (D := xd D) (tag := .wg n) trivial (fun i hi => absurd hi (Nat.not_lt_zero i)) (by simp)
    simpa [Vc, sumTo, pendT] using this
  have hj : JT n (.wg n) 0 := Nat.zero_add n
  have hk : Kept Wg C L0 w 0 D O w := ⟨fun _ _ => rfl, kW, kC, fun i hi => absurd hi (Nat.not_lt_zero i), kO, rfl, rfl, rfl, id⟩
  exact phase_run (o := gs.size) hRes hn _ (crowd gs w sl) t ⟨gs, w, sl, 0, D, q, .wg n, 0, 0, rk, F, O, a, 0, 0, rfl, h0, hms, hcom, S, hwg, hm, hj, hk, rfl⟩
end

end Go.Proofs.YtkpekiajdlolnabGreat.Ph

/-
  The link: which number each of package sync's functions and types bears in this translation.
-/
namespace Go.Proofs.YtkpekiajdlolnabGreat.Ph
abbrev link : Go.Conc.Lib.WgLink := { add := 53, done := 55, wait := 57, relMerge := 77, disable := 78, enable := 79, inBubble := 80, associate := 81, fatal := 82, uOr := 83, uAdd := 84, raceRead := 85, uLoad := 86, uStore := 87, disassociate := 88, semrelease := 89, acquire := 92, isAssociated := 93, uCas := 94, raceWrite := 95, semacquire := 96, orU64 := 118, addU64 := 119, loadU64 := 120, storeU64 := 121, casU64 := 125, tWgP := 158, tUP := 160, tAssoc := 161, tWg := 122, tAU := 119, tU64 := 117, tUint := 165, tU32 := 120, tPU32 := 166, tPAU := 203, tPU64 := 205, tNoCopy := 114, tANoCopy := 115, tAlign64 := 116 }
theorem wgLib : Go.Conc.Lib.WgLib Tryz.prog link :=
  ⟨Tryz.func53, Tryz.func55, Tryz.func57, Tryz.func77, Tryz.func78, Tryz.func79, Tryz.func80, Tryz.func81, Tryz.func82, Tryz.func83, Tryz.func84, Tryz.func85, Tryz.func86, Tryz.func87, Tryz.func88, Tryz.func89, Tryz.func92, Tryz.func93, Tryz.func94, Tryz.func95, Tryz.func96, Tryz.func118, Tryz.func119, Tryz.func120, Tryz.func121, Tryz.func125, Tryz.underlying158, Tryz.runUnderlying158, Tryz.sizeOf158, Tryz.isAgg158, Tryz.zeroValue158, Tryz.underlying160, Tryz.runUnderlying160, Tryz.sizeOf160, Tryz.isAgg160, Tryz.zeroValue160, Tryz.underlying161, Tryz.runUnderlying161, Tryz.sizeOf161, Tryz.isAgg161, Tryz.zeroValue161, Tryz.underlying122, Tryz.runUnderlying122, Tryz.sizeOf122, Tryz.isAgg122, Tryz.zeroValue122, Tryz.underlying119, Tryz.runUnderlying119, Tryz.sizeOf119, Tryz.isAgg119, Tryz.zeroValue119, Tryz.underlying117, Tryz.runUnderlying117, Tryz.sizeOf117, Tryz.isAgg117, Tryz.zeroValue117, Tryz.underlying165, Tryz.runUnderlying165, Tryz.sizeOf165, Tryz.isAgg165, Tryz.zeroValue165, Tryz.underlying120, Tryz.runUnderlying120, Tryz.sizeOf120, Tryz.isAgg120, Tryz.zeroValue120, Tryz.underlying166, Tryz.runUnderlying166, Tryz.sizeOf166, Tryz.isAgg166, Tryz.zeroValue166, Tryz.underlying203, Tryz.runUnderlying203, Tryz.sizeOf203, Tryz.isAgg203, Tryz.zeroValue203, Tryz.underlying205, Tryz.runUnderlying205, Tryz.sizeOf205, Tryz.isAgg205, Tryz.zeroValue205, Tryz.underlying0, Tryz.runUnderlying0, Tryz.sizeOf0, Tryz.isAgg0, Tryz.zeroValue0, Tryz.underlying3, Tryz.runUnderlying3, Tryz.sizeOf3, Tryz.isAgg3, Tryz.zeroValue3, Tryz.underlying4, Tryz.runUnderlying4, Tryz.sizeOf4, Tryz.isAgg4, Tryz.zeroValue4, Tryz.underlying9, Tryz.runUnderlying9, Tryz.sizeOf9, Tryz.isAgg9, Tryz.zeroValue9, Tryz.underlying20, Tryz.runUnderlying20, Tryz.sizeOf20, Tryz.isAgg20, Tryz.zeroValue20, Tryz.underlying21, Tryz.runUnderlying21, Tryz.sizeOf21, Tryz.isAgg21, Tryz.zeroValue21, (by kernel_rfl), (by kernel_rfl)⟩
end Go.Proofs.YtkpekiajdlolnabGreat.Ph

/-
  THE SHIFT, first text: a reckoning bears a shift of the tape: what it does hangs on what the tape will answer from here on, and on nothing else of the tape.
-/
namespace Go.Proofs.YtkpekiajdlolnabGreat.Sim
open Go Go.Conc

/-- the world with another tape, δ answers further on. -/
def shf (τ : Tape) (δ : Nat × Nat) (w : World) : World := { w with tape := τ, drawn := w.drawn - δ.1 + δ.2 }
/-- the other tape will answer the same. -/
def Fit (τ : Tape) (δ : Nat × Nat) (w : World) : Prop := δ.1 ≤ w.drawn ∧ ∀ i q, w.drawn ≤ i → τ (i - δ.1 + δ.2) q = w.tape i q
def rmap {α : Type} (f : World → World) : Result α → Result α | .ok a w => .ok a (f w) | .halt h w => .halt h (f w)

theorem seen_shf (P : Program) (w : World) (τ : Tape) (δ : Nat × Nat) (a : Addr) (u : TypeId) (k : Addr) (b : Bool) : (shf τ δ w).seen P a u k b = w.seen P a u k b := rfl
theorem viewLoad_shf (P : Program) (w : World) (τ : Tape) (δ : Nat × Nat) (a : Addr) (u : TypeId) (k : Addr) (b : Bool) : (shf τ δ w).viewLoad P a u k b = w.viewLoad P a u k b := rfl
theorem farLoad_shf (P : Program) (w : World) (τ : Tape) (δ : Nat × Nat) (a : Addr) (b : Bool) : (shf τ δ w).farLoad P a b = w.farLoad P a b := rfl
theorem bind_two2 {A : Type} {w : World} {τ : Tape} {δ : Nat × Nat} (fo : Except String A) (g g' : A → Except String (World × List Addr)) (h : ∀ c, ∃ h l, g c = .ok ({ w with heap := h }, l) ∧ g' c = .ok (shf τ δ { w with heap := h }, l)) :
    (∃ e, (fo >>= g) = .error e ∧ (fo >>= g') = .error e) ∨ ∃ h l, (fo >>= g) = .ok ({ w with heap := h }, l) ∧ (fo >>= g') = .ok (shf τ δ { w with heap := h }, l) := by
  cases fo with
  | error e => exact .inl ⟨e, rfl, rfl⟩
  | ok c => exact .inr (h c)
theorem viewStore_shf (P : Program) (w : World) (τ : Tape) (δ : Nat × Nat) (a : Addr) (u : TypeId) (k : Addr) (v : Value) (b : Bool) :
    (∃ e, w.viewStore P a u k v b = .error e ∧ (shf τ δ w).viewStore P a u k v b = .error e) ∨
    ∃ h l, w.viewStore P a u k v b = .ok ({ w with heap := h }, l) ∧ (shf τ δ w).viewStore P a u k v b = .ok (shf τ δ { w with heap := h }, l) := by
  unfold World.viewStore
  rw [seen_shf]
  generalize w.seen P a u k b = r
  generalize tight P P.depth u = t
  cases t with
  | false => exact .inl ⟨_, rfl, rfl⟩
  | true =>
    cases r with
    | error e => exact .inl ⟨_, rfl, rfl⟩
    | ok r =>
      obtain ⟨c, e, frozen, first, like, cells⟩ := r
      generalize v.bytes? = vb
      cases vb with
      | none => exact .inl ⟨_, rfl, rfl⟩
      | some bs =>
        dsimp only
        by_cases hb : some bs.length ≠ like.bytes?.map (·.length)
        · left
          refine ⟨_, if_pos hb, ?_⟩
          exact if_pos hb
        · rcases bind_two2 (cells.foldlM (init := c) _) (fun c => pure ({ w with heap := w.heap.setIfInBounds a.block (.cells c e frozen) }, cells.map fun (i, _, _) => { block := a.block, off := i }))
            (fun c => pure ({ shf τ δ w with heap := w.heap.setIfInBounds a.block (.cells c e frozen) }, cells.map fun (i, _, _) => { block := a.block, off := i })) (w := w) (τ := τ) (δ := δ) (fun c => ⟨_, _, rfl, rfl⟩) with ⟨e1, h1, h2⟩ | ⟨h, l, h1, h2⟩
          · exact .inl ⟨e1, (if_neg hb).trans h1, (if_neg hb).trans h2⟩
          · exact .inr ⟨h, l, (if_neg hb).trans h1, (if_neg hb).trans h2⟩
theorem farStore_shf (P : Program) (w : World) (τ : Tape) (δ : Nat × Nat) (a : Addr) (v : Value) (b : Bool) :
    (∃ e, w.farStore P a v b = .error e ∧ (shf τ δ w).farStore P a v b = .error e) ∨
    ∃ h l, w.farStore P a v b = .ok ({ w with heap := h }, l) ∧ (shf τ δ w).farStore P a v b = .ok (shf τ δ { w with heap := h }, l) := by
  unfold World.farStore
  have hh : (shf τ δ w).heap[a.block]? = w.heap[a.block]? := rfl
  have hno : (shf τ δ w).noCell a "store: no such cell" = w.noCell a "store: no such cell" := rfl
  rw [hh, hno]
  cases ho : w.heap[a.block]? with
  | none => exact .inl ⟨_, rfl, rfl⟩
  | some o =>
    cases o with
    | view at_ u =>
      dsimp only
      rcases viewStore_shf P w τ δ at_ u a v b with ⟨e, e1, e2⟩ | ⟨h, l, e1, e2⟩
      · exact .inl ⟨.unsupported (.unsafePointer e), by rw [e1], by rw [e2]⟩
      · exact .inr ⟨h, l, by rw [e1], by rw [e2]⟩
    | _ => exact .inl ⟨_, rfl, rfl⟩

theorem shift_store {α : Type} (P : Program) (m : Mode) (a : Addr) (v : Value) (k : Sem α) {τ : Tape} {δ : Nat × Nat} (ih : ∀ (w : World) (es : Array Event), Fit τ δ w →
    k.runT P (shf τ δ w) es = (rmap (shf τ δ) (k.runT P w es).1, (k.runT P w es).2) ∧ Fit τ δ (rw0 (k.runT P w es).1)) (w : World) (es : Array Event) (hw : Fit τ δ w) :
    storeT P m a v k (shf τ δ w) es = (rmap (shf τ δ) (storeT P m a v k w es).1, (storeT P m a v k w es).2) ∧ Fit τ δ (rw0 (storeT P m a v k w es).1) := by
  unfold storeT
  have hc : (shf τ δ w).cell? a = w.cell? a := rfl
  have hf : (shf τ δ w).frozen? a = w.frozen? a := rfl
  simp only [hc, hf]
  cases hq : w.cell? a with
  | some v0 =>
    dsimp only
    cases hq2 : w.frozen? a with
    | true => exact ⟨rfl, hw⟩
    | false => exact ih (w.setCell a v) _ hw
  | none =>
    dsimp only
    rcases farStore_shf P w τ δ a v (m == .atomic) with ⟨e, e1, e2⟩ | ⟨h, l, e1, e2⟩
    · simp only [e1, e2]
      exact ⟨rfl, hw⟩
    · simp only [e1, e2]
      exact ih { w with heap := h } _ hw

theorem ask_shift {α : Type} {τ : Tape} {δ : Nat × Nat} : ∀ (a : Ask α) (w : World), Fit τ δ w → (shf τ δ w).ask a = ((w.ask a).1, shf τ δ (w.ask a).2) ∧ Fit τ δ (w.ask a).2 := by
  intro a
  induction a with
  | done a => intro w h; exact ⟨rfl, h⟩
  | ask what range k ih =>
    intro w h
    unfold World.ask
    dsimp only
    have e : ∀ q, (shf τ δ w).tape (shf τ δ w).drawn q = w.tape w.drawn q := fun q => h.2 w.drawn q (Nat.le_refl _)
    split
    · rename_i hf
      exact ih 0 w h
    · rename_i hf
      rw [e]
      have e2 : ({ shf τ δ w with drawn := (shf τ δ w).drawn + 1 } : World) = shf τ δ { w with drawn := w.drawn + 1 } := by
        have := h.1; unfold shf; simp only [World.mk.injEq, true_and, and_true]; omega
      rw [e2]
      exact ih _ { w with drawn := w.drawn + 1 } ⟨Nat.le_succ_of_le h.1, fun i q hi => h.2 i q (Nat.le_of_lt hi)⟩
theorem sys_shift {τ : Tape} {δ : Nat × Nat} (c : Sys) (w : World) (h : Fit τ δ w) : (shf τ δ w).sys c = ((w.sys c).1, shf τ δ (w.sys c).2) ∧ Fit τ δ (w.sys c).2 := by
  unfold World.sys
  have e : Kernel.perform c (shf τ δ w).os = Kernel.perform c w.os := rfl
  rw [e]
  obtain ⟨h1, h2⟩ := ask_shift (Kernel.perform c w.os) w h
  rw [h1]
  generalize w.ask (Kernel.perform c w.os) = r at *
  obtain ⟨⟨a, os⟩, w1⟩ := r
  cases a <;> first | exact ⟨rfl, h⟩ | exact ⟨rfl, h2⟩

theorem run_shift {α : Type} (P : Program) {τ : Tape} {δ : Nat × Nat} : ∀ (s : Sem α) (w : World) (es : Array Event), Fit τ δ w →
    s.runT P (shf τ δ w) es = (rmap (shf τ δ) (s.runT P w es).1, (s.runT P w es).2) ∧ Fit τ δ (rw0 (s.runT P w es).1) := by
  intro s
  induction s with
  | pure a => intro w es h; exact ⟨rfl, h⟩
  | halt x => intro w es h; exact ⟨rfl, h⟩
  | load m a k ih =>
    intro w es h
    unfold Sem.runT
    have hc' : (shf τ δ w).cell? a = w.cell? a := rfl
    simp only [hc', farLoad_shf]
    cases hc : w.cell? a with
    | some v => exact ih v w _ h
    | none =>
      dsimp only
      cases hf : w.farLoad P a (m == .atomic) with
      | error x => exact ⟨rfl, h⟩
      | ok r => exact ih r.1 w _ h
  | store m a v k ih => cases v <;> first | (intro w es h; exact ⟨rfl, h⟩) | exact shift_store P m a _ k ih
  | new o k ih => intro w es h; exact ih _ { w with heap := w.heap.push o } es h
  | shape r k ih => intro w es h; exact ih _ w es h
  | freeze a n k ih =>
    intro w es h
    have e : (shf τ δ w).freeze a n = shf τ δ (w.freeze a n) := by unfold World.freeze; simp only [shf]; split <;> rfl
    have e1 : (w.freeze a n).drawn = w.drawn := by unfold World.freeze; split <;> rfl
    have e2 : (w.freeze a n).tape = w.tape := by unfold World.freeze; split <;> rfl
    have h' := ih (w.freeze a n) es ⟨by rw [e1]; exact h.1, fun i q hi => by rw [e2]; exact h.2 i q (by rw [e1] at hi; exact hi)⟩
    unfold Sem.runT
    rw [e]
    exact h'
  | frozen a k ih => intro w es h; exact ih _ w es h
  | getObj r k ih =>
    intro w es h
    unfold Sem.runT
    have hc : (shf τ δ w).heap[r]? = w.heap[r]? := rfl
    simp only [hc]
    cases ho : w.heap[r]? with
    | none => exact ⟨rfl, h⟩
    | some o => cases o <;> first | exact ⟨rfl, h⟩ | exact ih _ w _ h
  | setObj r o k ih =>
    intro w es h
    unfold Sem.runT
    have hc : (shf τ δ w).heap[r]? = w.heap[r]? := rfl
    simp only [hc]
    cases ho : w.heap[r]? with
    | none => exact ⟨rfl, h⟩
    | some o' => cases o' <;> first | exact ⟨rfl, h⟩ | exact ih { w with heap := w.heap.setIfInBounds r o } _ h
  | choose q k ih =>
    intro w es h
    unfold Sem.runT
    by_cases hf : q.forced = true
    · simp only [hf, if_true]
      exact ih 0 w es h
    · simp only [hf, Bool.false_eq_true, if_false]
      have e : (shf τ δ w).tape (shf τ δ w).drawn q = w.tape w.drawn q := h.2 w.drawn _ (Nat.le_refl _)
      rw [e]
      have e2 : ({ shf τ δ w with drawn := (shf τ δ w).drawn + 1 } : World) = shf τ δ { w with drawn := w.drawn + 1 } := by
        have := h.1; unfold shf; simp only [World.mk.injEq, true_and, and_true]; omega
      rw [e2]
      exact ih _ { w with drawn := w.drawn + 1 } es ⟨Nat.le_succ_of_le h.1, fun i q hi => h.2 i q (Nat.le_of_lt hi)⟩
  | sys c k ih =>
    intro w es h
    unfold Sem.runT
    obtain ⟨h1, h2⟩ := sys_shift c w h
    rw [h1]
    exact ih _ _ _ h2
  | program k ih => intro w es h; exact ih P w es h
  | mark m k ih => intro w es h; exact ih w _ h
theorem shr {α : Type} {P : Program} {s : Sem α} {w : World} {es : Array Event} {r : Result α} {es1 : Array Event} (hr : s.runT P w es = (r, es1)) {τ : Tape} {δ : Nat × Nat} (h : Fit τ δ w) : s.runT P (shf τ δ w) es = (rmap (shf τ δ) r, es1) ∧ Fit τ δ (rw0 r) := by
  have := run_shift P s w es h
  rw [hr] at this
  exact this
end Go.Proofs.YtkpekiajdlolnabGreat.Sim

/-
  THE SHIFT, second text: a step bears a shift of the tape.
-/
namespace Go.Proofs.YtkpekiajdlolnabGreat.Sim
open Go Go.Conc

def ShS (f : World → GStep) (w : World) : Prop := ∀ g1 w1 es, f w = .go g1 w1 es → ∀ τ δ, Fit τ δ w → f (shf τ δ w) = .go g1 (shf τ δ w1) es ∧ Fit τ δ w1
theorem ShS.go {g : Goroutine} {es : Array Event} {w : World} : ShS (fun w => .go g w es) w := by
  intro g1 w1 es h
  cases h
  exact fun τ δ h => ⟨rfl, h⟩
theorem ShS.ended {f : World → GStep} {w : World} {o : Outcome} {w2 : World} {es : Array Event} (h : f w = .ended o w2 es) : ShS f w := fun g1 w1 es e => by rw [h] at e; cases e

section
variable {X : Cx} {Fb : FuncId → Bool} {wr : Bool} {sp : FuncId → Bool} {ρ : Rel}

theorem apply_sh {cs : List Frame} {fr : Frame} {w w' : World} (hw : WR X ρ w w') (hm : fr.mode = .run) (hk : fr.kind = .normal)
    {s s' : Sem Next} (hs : SS X ρ s s' (fun ρ1 n n' => NR X ρ1 n n')) : ShS (fun w => stepG.apply X.P true fr cs none s w) w := by
  have e1 : (fr.kind == CallKind.early) = false := by rw [hk]; rfl
  have raised : ∀ vs, fr.raise vs = { fr with mode := .panicking vs } := fun vs => by unfold Frame.raise; rw [hm]
  intro g1 w1 es hgo
  rcases hr : s.runT X.P w #[] with ⟨r, es0⟩
  unfold stepG.apply at hgo ⊢
  simp only [if_true] at hgo ⊢
  rw [hr] at hgo
  cases r with
  | halt h wx =>
    have hr' : s.run X.P w = .halt h wx := by rw [← Sem.runT_fst X.P s w #[], hr]
    obtain ⟨hmild, -⟩ := hs.2 w w' h wx hw hr'
    cases h with
    | panic v =>
      simp only [GStep.after] at hgo
      cases hgo
      refine fun τ δ hτ => ?_
      obtain ⟨d3, d4⟩ := shr hr hτ
      refine ⟨?_, d4⟩
      rw [d3]
      rfl
    | unsupported u =>
      cases u with
      | initOrder b => exact hmild.elim
      | _ => simp only [GStep.after] at hgo; cases hgo
    | stuck m => simp only [GStep.after] at hgo; cases hgo
    | _ => exact hmild.elim
  | ok n wx =>
    have hr' : s.run X.P w = .ok n wx := by rw [← Sem.runT_fst X.P s w #[], hr]
    obtain ⟨ρ1, n', w1', es1, h1, h2, h3, h4, h5, h6, h7⟩ := hs.1 w w' n wx #[] hw hr'
    cases h6 <;>
    · simp only [GStep.after] at hgo
      cases hgo
      refine fun τ δ hτ => ?_
      obtain ⟨d3, d4⟩ := shr hr hτ
      refine ⟨?_, d4⟩
      rw [d3]
      rfl

theorem leave_sh {cs : List Frame} {fr fr' : Frame} {w w' : World} (hw : WR X ρ w w') (hr0 : OptR ρ fr.roundOf fr'.roundOf) (hk : fr.kind = .normal) (jump : Option Code) (hj : ∀ c, jump = some c → X.C c) (m : Bool) (hne : fr.roundOf.isSome → cs ≠ []) :
    ShS (fun w => leaveG X.P m fr cs jump w) w := by
  rcases hr0 with ⟨e1, e2⟩ | ⟨l, l', e1, e2, hl⟩
  · unfold leaveG
    rw [e1]
    dsimp only
    cases jump with
    | none => exact ShS.go
    | some c => cases c <;> first | exact ShS.go | exact ShS.ended rfl
  · intro g1 w1 es hgo
    unfold leaveG at hgo ⊢
    rw [e1] at hgo ⊢
    dsimp only at hgo ⊢
    rcases hr : (Instr.endRound l jump).runT X.P w #[] with ⟨r, es0⟩
    rw [hr] at hgo
    cases r with
    | halt h wx => cases hgo
    | ok v wx =>
      cases cs with
      | nil => exact absurd rfl (hne (by rw [e1]; rfl))
      | cons c cs =>
        unfold doReturn at hgo
        simp only [hk, GStep.after] at hgo
        cases hgo
        refine fun τ δ hτ => ?_
        obtain ⟨d3, d4⟩ := shr hr hτ
        refine ⟨?_, d4⟩
        rw [d3]
        simp only [rmap, doReturn, hk, GStep.after]

theorem exec_sh (S : X.Set Fb wr sp) {cs : List Frame} {fr fr' : Frame} {w w' : World} (hf : FR X Fb wr ρ fr fr') (hw : WR X ρ w w') (hm : fr.mode = .run) (m : Bool) (hne : fr.roundOf.isSome → cs ≠ []) :
    ShS (fun w => stepG.exec X.P m true fr cs none w) w := by
  obtain ⟨fn, tmps, todo, defers, mode, kind, ro⟩ := fr
  obtain ⟨fn', tmps', todo', defers', mode', kind', ro'⟩ := fr'
  have ht : IsR X Fb wr ρ todo todo' := hf.todo
  obtain rfl : fn' = fn := hf.fn
  have hk : kind = .normal := hf.kind
  have hco : ∀ c, codeOk X.P X.P' Fb wr c = true → X.C c := fun c h => (S.c c).2 h
  unfold stepG.exec
  cases ht with
  | nil => exact leave_sh hw hf.round hk none (fun c e => by cases e) m hne
  | @cons i i' l l' a b =>
    cases a with
    | inBlock id => exact ShS.go
    | inLoop c => exact ShS.go
    | inRangeFunc r => exact ShS.ended rfl
    | beginRound =>
      refine apply_sh (fr := ⟨fn', tmps, _, defers, mode, kind, ro⟩) (s' := do (ro'.elim (Go.stuck "beginRound: no round") Instr.beginRound : Sem Unit); Pure.pure .skip) hw hm hk ?_
      have hr0 : OptR ρ ro ro' := hf.round
      rcases hr0 with ⟨rfl, rfl⟩ | ⟨l, l', rfl, rfl, hl⟩
      · exact SS.dies (Dies.bindL (Dies.stuck _))
      · exact (SS.beginRound hl).bind fun _ _ _ _ _ => SS.pure .skip
    | @endRangeFunc l l' r =>
      intro g1 w1 es hgo
      dsimp only at hgo ⊢
      rcases hr : (Instr.endLoop l).runT X.P w #[] with ⟨r0, es0⟩
      rw [hr] at hgo
      cases r0 with
      | halt h wx =>
        cases h with
        | panic v =>
          cases hgo
          refine fun τ δ hτ => ?_
          obtain ⟨d3, d4⟩ := shr hr hτ
          refine ⟨?_, d4⟩
          rw [d3]
          rfl
        | _ => cases hgo
      | ok j wx =>
        cases hgo
        refine fun τ δ hτ => ?_
        obtain ⟨d3, d4⟩ := shr hr hτ
        refine ⟨?_, d4⟩
        rw [d3]
        rfl
    | @inRegion ops td c =>
      cases td with
      | nil => exact ShS.go
      | cons i td =>
        dsimp only
        by_cases hwant : ((ops[i]?).map (Region.wanted · (yielded ops tmps))).getD false = true
        · simp only [if_pos hwant]
          cases ho : ops[i]? with
          | none => rw [ho] at hwant; cases hwant
          | some o =>
            have hok := all_ops c ho
            have nd : ∀ c, o.op ≠ .defer c := fun c e => by
              unfold okOp at hok
              rw [e] at hok
              simp at hok
            have op1 : (⟨fn', tmps, .inRegion ops (i :: td) :: l, defers, mode, kind, ro⟩ : Frame).oper? = some o := ho
            have e : (fun w => stepG.oper X.P true (⟨fn', tmps, .inRegion ops (i :: td) :: l, defers, mode, kind, ro⟩ : Frame) cs none w) =
                fun w => stepG.apply X.P true (⟨fn', tmps, .inRegion ops (i :: td) :: l, defers, mode, kind, ro⟩ : Frame) cs none (execOp (Frame.eval (⟨fn', tmps, .inRegion ops (i :: td) :: l, defers, mode, kind, ro⟩ : Frame)) o) w := by
              funext w
              unfold stepG.oper
              rw [op1]
              dsimp only
              split
              · rename_i e; exact absurd e (nd _)
              · rfl
            rw [e]
            exact apply_sh hw hm hk (SS.execOp S.ok wr S.wrs o hok _ _ (hf.eval S))
        · simp only [if_neg hwant]
          exact ShS.go
    | @code c hc =>
      cases c with
      | skip => exact ShS.go
      | ret => exact leave_sh (fr := ⟨fn', tmps, _, defers, mode, kind, ro⟩) hw hf.round hk (some .ret) (fun c e => by cases e; exact hco _ rfl) m hne
      | seq x y => exact ShS.go
      | cond x y z =>
        dsimp only
        generalize Frame.eval _ x = v
        cases v <;> first | exact ShS.go | exact ShS.ended rfl
      | block id c => exact ShS.go
      | loop c => exact ShS.go
      | exit id =>
        dsimp only
        cases exitTo id l with
        | none => exact leave_sh (fr := ⟨fn', tmps, _, defers, mode, kind, ro⟩) hw hf.round hk (some (.exit id)) (fun c e => by cases e; exact hco _ rfl) m hne
        | some k => exact ShS.go
      | region id ops draw =>
        cases draw with
        | false => exact ShS.go
        | true =>
          intro g1 w1 es hgo
          dsimp only at hgo ⊢
          simp only [Bool.not_true, Bool.false_eq_true, if_false] at hgo ⊢
          rcases hr : (choose (.order fn' id)).runT X.P w #[] with ⟨r0, es0⟩
          have hr' : (choose (.order fn' id)).run X.P w = r0 := by rw [← Sem.runT_fst X.P _ w #[], hr]
          rw [hr'] at hgo
          cases r0 with
          | halt h wx => cases hgo
          | ok t wx =>
            cases hgo
            refine fun τ δ hτ => ?_
            obtain ⟨d3, d4⟩ := shr hr hτ
            refine ⟨?_, d4⟩
            have : (choose (.order fn' id)).run X.P (shf τ δ w) = .ok t (shf τ δ w1) := by rw [← Sem.runT_fst X.P _ _ #[], d3]; rfl
            rw [this]
      | rangeFunc f params assign body =>
        simp only [codeOk, Bool.and_eq_true] at hc
        obtain ⟨hc1, hc2, hc3⟩ := hc
        have hG : X.G fn' := hf.same
        intro g1 w1 es hgo
        dsimp only at hgo ⊢
        rcases hr : (Instr.enterLoop fn' tmps params assign body ro).runT X.P w #[] with ⟨r0, es0⟩
        have hen := SS.enterLoop hG hf.tmps params (hco _ hc2) (hco _ hc3) hf.round
        rw [hr] at hgo
        cases r0 with
        | halt h wx => cases hgo
        | ok p wx =>
          obtain ⟨l1, mark⟩ := p
          obtain ⟨ρ1, p', w1', es1, h1, h2, h3, h4, h5, ⟨h6, h6'⟩, h7⟩ := res_ok hen hw hr
          obtain ⟨l1', mark'⟩ := p'
          dsimp only at h6 h6' hgo
          have hf1 := hf.mono h3.le
          have hf2 : FR X Fb wr ρ1 ⟨fn', tmps, .inRangeFunc l1 :: l, mark ++ defers, mode, kind, ro⟩ ⟨fn', tmps', .inRangeFunc l1' :: l', mark' ++ defers', mode', kind', ro'⟩ :=
            ⟨hf1.fn, hf1.same, hf1.tmps, .cons (.inRangeFunc h6) (b.mono h3.le), h6'.append hf1.defers, hf1.mode, hf1.run, hf1.kind, hf1.kind', hf1.round⟩
          have ap := apply_sh (cs := cs) (fr := ⟨fn', tmps, .inRangeFunc l1 :: l, mark ++ defers, mode, kind, ro⟩) h2 hm hk (SS.iterate S.ok (fun _ => rfl) (fun _ => rfl) ((hf2.eval S).1 f hc1) h6)
          obtain ⟨es2, k1, k2⟩ := after_inv hgo
          refine fun τ δ hτ => ?_
          obtain ⟨d3, d4⟩ := shr hr hτ
          obtain ⟨q3, q4⟩ := ap g1 w1 es2 k1 τ δ d4
          refine ⟨?_, q4⟩
          rw [d3]
          dsimp only [rmap]
          have k3 : es = seen X.P fn' es0 ++ es2 := by cases k2; rfl
          rw [k3]
          exact congrArg (GStep.after _) q3
      | _ => simp [codeOk] at hc

theorem unwind_sh (S : X.Set Fb wr sp) {cs : List Frame} {fr fr' : Frame} {w w' : World} (hf : FR X Fb wr ρ fr fr') (hw : WR X ρ w w') (hm : fr.mode = .returning) (m : Bool) (hne : fr.defers ≠ [] ∨ cs ≠ []) :
    ShS (fun w => unwind X.P m fr cs none w) w := by
  obtain ⟨fn, tmps, todo, defers, mode, kind, ro⟩ := fr
  obtain ⟨fn', tmps', todo', defers', mode', kind', ro'⟩ := fr'
  obtain rfl : fn' = fn := hf.fn
  obtain rfl : mode = .returning := hm
  obtain rfl : kind = .normal := hf.kind
  have hd : DsR ρ defers defers' := hf.defers
  intro g1 w1 es hgo
  cases hd with
  | @cons r r' l l' a b =>
    unfold unwind at hgo ⊢
    dsimp only at hgo ⊢
    rcases hr : (Instr.takeDeferred r).runT X.P w #[] with ⟨r0, es0⟩
    rw [hr] at hgo
    cases r0 with
    | halt h wx => cases hgo
    | ok v wx =>
      cases hgo
      refine fun τ δ hτ => ?_
      obtain ⟨d3, d4⟩ := shr hr hτ
      refine ⟨?_, d4⟩
      rw [d3]
      rfl
  | nil =>
    have hne : cs ≠ [] := hne.resolve_left (fun h => h rfl)
    obtain ⟨f, q1, q2⟩ := hf.same
    have q1 : X.P.funcs[fn']? = some f := q1
    unfold unwind at hgo ⊢
    dsimp only at hgo ⊢
    rw [q1] at hgo ⊢
    dsimp only at hgo ⊢
    rcases hr : (results f tmps).runT X.P w #[] with ⟨r0, es0⟩
    rw [hr] at hgo
    cases r0 with
    | halt h wx => cases h <;> cases hgo
    | ok v wx =>
      cases cs with
      | nil => exact absurd rfl hne
      | cons c cs =>
        cases hgo
        refine fun τ δ hτ => ?_
        obtain ⟨d3, d4⟩ := shr hr hτ
        refine ⟨?_, d4⟩
        rw [d3]
        rfl

theorem step_sh (S : X.Set Fb wr sp) {cs : List Frame} {fr fr' : Frame} {w w' : World} (hf : FR X Fb wr ρ fr fr') (hw : WR X ρ w w') (m : Bool) (hne : cs ≠ []) :
    ShS (fun w => stepG X.P m (G fr cs) w) w := by
  rcases hf.run with hm | hm
  · have e : (fun w => stepG X.P m (G fr cs) w) = fun w => stepG.exec X.P m true fr cs none w := funext fun w => stepG_run _ _ _ _ _ hm
    rw [e]
    exact exec_sh S hf hw hm m (fun _ => hne)
  · have e : (fun w => stepG X.P m (G fr cs) w) = fun w => unwind X.P m fr cs none w := funext fun w => stepG_ret _ _ _ _ _ hm
    rw [e]
    exact unwind_sh S hf hw hm m (.inr hne)
end

end Go.Proofs.YtkpekiajdlolnabGreat.Sim

/-
  THE SHIFT, third text: a step above a base of callers is the same above every base.
-/
namespace Go.Proofs.YtkpekiajdlolnabGreat.Sim
open Go Go.Conc

/-- a step that goes on, the same above whatever base. -/
def BaS (f : List Frame → GStep) : Prop := (∃ fr1 up1 w1 es, ∀ base, f base = .go (G fr1 (up1 ++ base)) w1 es) ∨ ∀ base g1 w1 es, f base ≠ .go g1 w1 es
theorem BaS.go {f : List Frame → GStep} (fr : Frame) (up : List Frame) (w : World) (es : Array Event) (h : ∀ base, f base = .go (G fr (up ++ base)) w es) : BaS f := .inl ⟨fr, up, w, es, h⟩
theorem BaS.ended {f : List Frame → GStep} (h : ∀ base, ∃ o w es, f base = .ended o w es) : BaS f := .inr fun base g1 w1 es e => by
  obtain ⟨o, w, es', h⟩ := h base
  rw [h] at e; cases e
theorem BaS.after {f : List Frame → GStep} {es0 : Array Event} (h : BaS f) : BaS (fun base => GStep.after es0 (f base)) := by
  rcases h with ⟨fr1, up1, w1, es, h⟩ | h
  · exact .inl ⟨fr1, up1, w1, es0 ++ es, fun base => by show GStep.after es0 (f base) = _; rw [h base]; rfl⟩
  · refine .inr fun base g1 w1 es e => ?_
    obtain ⟨es2, k1, _⟩ := after_inv e
    exact h base g1 w1 es2 k1

section
variable {X : Cx} {Fb : FuncId → Bool} {wr : Bool} {sp : FuncId → Bool} {ρ : Rel}

theorem apply_ba {up : List Frame} {fr : Frame} {w w' : World} (hw : WR X ρ w w') (hm : fr.mode = .run) (hk : fr.kind = .normal)
    {s s' : Sem Next} (hs : SS X ρ s s' (fun ρ1 n n' => NR X ρ1 n n')) : BaS (fun base => stepG.apply X.P true fr (up ++ base) none s w) := by
  have e1 : (fr.kind == CallKind.early) = false := by rw [hk]; rfl
  rcases hr : s.runT X.P w #[] with ⟨r, es0⟩
  unfold stepG.apply
  simp only [if_true, hr, e1, Bool.false_eq_true, if_false]
  cases r with
  | halt h wx =>
    have hr' : s.run X.P w = .halt h wx := by rw [← Sem.runT_fst X.P s w #[], hr]
    obtain ⟨hmild, -⟩ := hs.2 w w' h wx hw hr'
    cases h with
    | panic v => exact BaS.after (BaS.go (fr.raise [{ v, recovered := false }]) up wx #[] fun _ => rfl)
    | unsupported u =>
      cases u with
      | initOrder b => exact hmild.elim
      | _ => exact BaS.after (BaS.ended fun _ => ⟨_, _, _, rfl⟩)
    | stuck m => exact BaS.after (BaS.ended fun _ => ⟨_, _, _, rfl⟩)
    | _ => exact hmild.elim
  | ok n wx =>
    have hr' : s.run X.P w = .ok n wx := by rw [← Sem.runT_fst X.P s w #[], hr]
    obtain ⟨ρ1, n', w1', es1, h1, h2, h3, h4, h5, h6, h7⟩ := hs.1 w w' n wx #[] hw hr'
    cases h6 with
    | value h => exact BaS.after (BaS.go (fr.finish _) up wx #[] fun _ => rfl)
    | skip => exact BaS.after (BaS.go (fr.finish undef) up wx #[] fun _ => rfl)
    | enter _ _ => exact BaS.after (BaS.go _ (fr :: up) wx #[] fun _ => rfl)
    | round _ _ _ _ _ => exact BaS.after (BaS.go _ (fr :: up) wx #[] fun _ => rfl)

theorem leave_ba {up : List Frame} {fr : Frame} {w : World} (hk : fr.kind = .normal) (jump : Option Code) (m : Bool) (hne : fr.roundOf.isSome → up ≠ []) :
    BaS (fun base => leaveG X.P m fr (up ++ base) jump w) := by
  obtain ⟨fn, tmps, todo, defers, mode, kind, ro⟩ := fr
  obtain rfl : kind = .normal := hk
  unfold leaveG
  cases ro with
  | none =>
    dsimp only
    cases jump with
    | none => exact BaS.go ⟨fn, tmps, todo, defers, .returning, .normal, none⟩ up w #[] fun _ => rfl
    | some c => cases c <;> first | exact BaS.go ⟨fn, tmps, todo, defers, .returning, .normal, none⟩ up w #[] (fun _ => rfl) | exact BaS.ended fun _ => ⟨_, _, _, rfl⟩
  | some l =>
    dsimp only
    rcases hr : (Instr.endRound l jump).runT X.P w #[] with ⟨r, es0⟩
    cases r with
    | halt h wx => exact BaS.after (BaS.ended fun _ => ⟨_, _, _, rfl⟩)
    | ok v wx =>
      cases up with
      | nil => exact absurd rfl (hne rfl)
      | cons c up => exact BaS.after (BaS.go (c.finish v) up wx #[] fun _ => rfl)

theorem exec_ba (S : X.Set Fb wr sp) {up : List Frame} {fr fr' : Frame} {w w' : World} (hf : FR X Fb wr ρ fr fr') (hw : WR X ρ w w') (hm : fr.mode = .run) (m : Bool) (hne : fr.roundOf.isSome → up ≠ []) :
    BaS (fun base => stepG.exec X.P m true fr (up ++ base) none w) := by
  obtain ⟨fn, tmps, todo, defers, mode, kind, ro⟩ := fr
  obtain ⟨fn', tmps', todo', defers', mode', kind', ro'⟩ := fr'
  have ht : IsR X Fb wr ρ todo todo' := hf.todo
  obtain rfl : fn' = fn := hf.fn
  have hk : kind = .normal := hf.kind
  have hco : ∀ c, codeOk X.P X.P' Fb wr c = true → X.C c := fun c h => (S.c c).2 h
  unfold stepG.exec
  cases ht with
  | nil => exact leave_ba hk none m hne
  | @cons i i' l l' a b =>
    cases a with
    | inBlock id => exact BaS.go _ up w #[] fun _ => rfl
    | inLoop c => exact BaS.go _ up w #[] fun _ => rfl
    | inRangeFunc r => exact BaS.ended fun _ => ⟨_, _, _, rfl⟩
    | beginRound =>
      refine apply_ba (fr := ⟨fn', tmps, _, defers, mode, kind, ro⟩) (s' := do (ro'.elim (Go.stuck "beginRound: no round") Instr.beginRound : Sem Unit); Pure.pure .skip) hw hm hk ?_
      have hr0 : OptR ρ ro ro' := hf.round
      rcases hr0 with ⟨rfl, rfl⟩ | ⟨l, l', rfl, rfl, hl⟩
      · exact SS.dies (Dies.bindL (Dies.stuck _))
      · exact (SS.beginRound hl).bind fun _ _ _ _ _ => SS.pure .skip
    | @endRangeFunc l l' r =>
      dsimp only
      rcases hr : (Instr.endLoop l).runT X.P w #[] with ⟨r0, es0⟩
      cases r0 with
      | halt h wx =>
        cases h with
        | panic v => exact BaS.after (BaS.go _ up wx #[] fun _ => rfl)
        | _ => exact BaS.after (BaS.ended fun _ => ⟨_, _, _, rfl⟩)
      | ok j wx => exact BaS.after (BaS.go _ up wx #[] fun _ => rfl)
    | @inRegion ops td c =>
      cases td with
      | nil => exact BaS.go _ up w #[] fun _ => rfl
      | cons i td =>
        dsimp only
        by_cases hwant : ((ops[i]?).map (Region.wanted · (yielded ops tmps))).getD false = true
        · simp only [if_pos hwant]
          cases ho : ops[i]? with
          | none => rw [ho] at hwant; cases hwant
          | some o =>
            have hok := all_ops c ho
            have nd : ∀ c, o.op ≠ .defer c := fun c e => by
              unfold okOp at hok
              rw [e] at hok
              simp at hok
            have op1 : (⟨fn', tmps, .inRegion ops (i :: td) :: l, defers, mode, kind, ro⟩ : Frame).oper? = some o := ho
            have e : (fun base => stepG.oper X.P true (⟨fn', tmps, .inRegion ops (i :: td) :: l, defers, mode, kind, ro⟩ : Frame) (up ++ base) none w) =
                fun base => stepG.apply X.P true (⟨fn', tmps, .inRegion ops (i :: td) :: l, defers, mode, kind, ro⟩ : Frame) (up ++ base) none (execOp (Frame.eval (⟨fn', tmps, .inRegion ops (i :: td) :: l, defers, mode, kind, ro⟩ : Frame)) o) w := by
              funext base
              unfold stepG.oper
              rw [op1]
              dsimp only
              split
              · rename_i e; exact absurd e (nd _)
              · rfl
            rw [e]
            exact apply_ba hw hm hk (SS.execOp S.ok wr S.wrs o hok _ _ (hf.eval S))
        · simp only [if_neg hwant]
          exact BaS.go _ up w #[] fun _ => rfl
    | @code c hc =>
      cases c with
      | skip => exact BaS.go _ up w #[] fun _ => rfl
      | ret => exact leave_ba (fr := ⟨fn', tmps, _, defers, mode, kind, ro⟩) hk (some .ret) m hne
      | seq x y => exact BaS.go _ up w #[] fun _ => rfl
      | cond x y z =>
        dsimp only
        generalize Frame.eval _ x = v
        cases v <;> first | exact BaS.go _ up w #[] (fun _ => rfl) | exact BaS.ended fun _ => ⟨_, _, _, rfl⟩
      | block id c => exact BaS.go _ up w #[] fun _ => rfl
      | loop c => exact BaS.go _ up w #[] fun _ => rfl
      | exit id =>
        dsimp only
        cases exitTo id l with
        | none => exact leave_ba (fr := ⟨fn', tmps, _, defers, mode, kind, ro⟩) hk (some (.exit id)) m hne
        | some k => exact BaS.go _ up w #[] fun _ => rfl
      | region id ops draw =>
        cases draw with
        | false => exact BaS.go _ up w #[] fun _ => rfl
        | true =>
          dsimp only
          simp only [Bool.not_true, Bool.false_eq_true, if_false]
          rcases hr : (choose (.order fn' id)).run X.P w with ⟨t, wx⟩ | ⟨h, wx⟩
          · exact BaS.go _ up wx #[] fun _ => rfl
          · exact BaS.ended fun _ => ⟨_, _, _, rfl⟩
      | rangeFunc f params assign body =>
        simp only [codeOk, Bool.and_eq_true] at hc
        obtain ⟨hc1, hc2, hc3⟩ := hc
        have hG : X.G fn' := hf.same
        dsimp only
        rcases hr : (Instr.enterLoop fn' tmps params assign body ro).runT X.P w #[] with ⟨r0, es0⟩
        have hen := SS.enterLoop hG hf.tmps params (hco _ hc2) (hco _ hc3) hf.round
        cases r0 with
        | halt h wx => exact BaS.after (BaS.ended fun _ => ⟨_, _, _, rfl⟩)
        | ok p wx =>
          obtain ⟨l1, mark⟩ := p
          obtain ⟨ρ1, p', w1', es1, h1, h2, h3, h4, h5, ⟨h6, h6'⟩, h7⟩ := res_ok hen hw hr
          obtain ⟨l1', mark'⟩ := p'
          dsimp only at h6 h6'
          have hf1 := hf.mono h3.le
          have hf2 : FR X Fb wr ρ1 ⟨fn', tmps, .inRangeFunc l1 :: l, mark ++ defers, mode, kind, ro⟩ ⟨fn', tmps', .inRangeFunc l1' :: l', mark' ++ defers', mode', kind', ro'⟩ :=
            ⟨hf1.fn, hf1.same, hf1.tmps, .cons (.inRangeFunc h6) (b.mono h3.le), h6'.append hf1.defers, hf1.mode, hf1.run, hf1.kind, hf1.kind', hf1.round⟩
          exact BaS.after (apply_ba (up := up) (fr := ⟨fn', tmps, .inRangeFunc l1 :: l, mark ++ defers, mode, kind, ro⟩) h2 hm hk (SS.iterate S.ok (fun _ => rfl) (fun _ => rfl) ((hf2.eval S).1 f hc1) h6))
      | _ => simp [codeOk] at hc

theorem unwind_ba (S : X.Set Fb wr sp) {up : List Frame} {fr fr' : Frame} {w : World} (hf : FR X Fb wr ρ fr fr') (hm : fr.mode = .returning) (m : Bool) (hne : fr.defers ≠ [] ∨ up ≠ []) :
    BaS (fun base => unwind X.P m fr (up ++ base) none w) := by
  obtain ⟨fn, tmps, todo, defers, mode, kind, ro⟩ := fr
  obtain ⟨fn', tmps', todo', defers', mode', kind', ro'⟩ := fr'
  obtain rfl : fn' = fn := hf.fn
  obtain rfl : mode = .returning := hm
  obtain rfl : kind = .normal := hf.kind
  have hd : DsR ρ defers defers' := hf.defers
  cases hd with
  | @cons r r' l l' a b =>
    unfold unwind
    dsimp only
    rcases hr : (Instr.takeDeferred r).runT X.P w #[] with ⟨r0, es0⟩
    cases r0 with
    | halt h wx => exact BaS.after (BaS.ended fun _ => ⟨_, _, _, rfl⟩)
    | ok v wx => exact BaS.after (BaS.go _ up wx #[] fun _ => rfl)
  | nil =>
    have hne : up ≠ [] := hne.resolve_left (fun h => h rfl)
    obtain ⟨f, q1, q2⟩ := hf.same
    have q1 : X.P.funcs[fn']? = some f := q1
    unfold unwind
    dsimp only
    rw [q1]
    dsimp only
    rcases hr : (results f tmps).runT X.P w #[] with ⟨r0, es0⟩
    cases r0 with
    | halt h wx => cases h <;> exact BaS.after (BaS.ended fun _ => ⟨_, _, _, rfl⟩)
    | ok v wx =>
      cases up with
      | nil => exact absurd rfl hne
      | cons c up => exact BaS.after (BaS.go (c.finish v) up wx #[] fun _ => rfl)

theorem step_ba (S : X.Set Fb wr sp) {up : List Frame} {fr fr' : Frame} {w w' : World} (hf : FR X Fb wr ρ fr fr') (hw : WR X ρ w w') (m : Bool) (hB : Bot (fr :: up)) (hgo : fr.mode = .run ∨ fr.defers ≠ [] ∨ up ≠ []) :
    BaS (fun base => stepG X.P m (G fr (up ++ base)) w) := by
  rcases hf.run with hm | hm
  · have e : (fun base => stepG X.P m (G fr (up ++ base)) w) = fun base => stepG.exec X.P m true fr (up ++ base) none w := funext fun base => stepG_run _ _ _ _ _ hm
    rw [e]
    refine exec_ba S hf hw hm m fun h hu => ?_
    subst hu
    have := hB fr (by simp)
    rw [this] at h; cases h
  · have e : (fun base => stepG X.P m (G fr (up ++ base)) w) = fun base => unwind X.P m fr (up ++ base) none w := funext fun base => stepG_ret _ _ _ _ _ hm
    rw [e]
    exact unwind_ba S hf hm m (hgo.resolve_left (by rw [hm]; intro h; cases h))
end

end Go.Proofs.YtkpekiajdlolnabGreat.Sim

/-
  A LONE PIECE BESIDE LEAVERS: what a lone run must come to, the machine comes to, with the same frames and the same heap.
-/
namespace Go.Proofs.YtkpekiajdlolnabGreat.Ph
open Go Go.Conc Go.ConcN Go.Proofs.YtkpekiajdlolnabGreat.Sim

/-- the two worlds part in the tape and the count of draws alone. -/
structure Same (w wc : World) : Prop where
  heap : wc.heap = w.heap
  os : wc.os = w.os
  output : wc.output = w.output
theorem Same.refl (w : World) : Same w w := ⟨rfl, rfl, rfl⟩

section
variable {X : Cx} {Fb : FuncId → Bool} {SB : Blocks} {Q : Frame → List Frame → World → Prop}

theorem beside_lone (hPP : X.P' = X.P) (S : X.Set Fb true (fun _ => false)) (hQ : ∀ fr cs w, Q fr cs w → ∀ ch, fr.mode ≠ .panicking ch) : ∀ {fr : Frame} {cs : List Frame} {w : World}, LMust X.P Q fr cs w →
    ∀ {ρ : Rel} {up base : List Frame} {gs : Array Goroutine} {wc : World} {sl : Option (Nat × Nat)} {t : Trace} {q : Nat → Nat}, cs = up ++ [c0] → base ≠ [] → FR X Fb true ρ fr fr → FsR X Fb true ρ up up → WN X ρ w wc → Same w wc → NB w → Bot (fr :: up) →
      gs[0]? = some (G fr (up ++ base)) → Leavers X.P t gs q → PastW SB wc gs.size t → FootOK SB (rng ρ) (own X ρ) wc →
      ∃ (N : Nat) (gs' : Array Goroutine) (fr2 : Frame) (up2 : List Frame) (w2 wc2 : World) (sl' : Option (Nat × Nat)) (t' : Trace) (q' : Nat → Nat) (ρ2 : Rel),
        runNT X.P N (crowd gs wc sl) t = (.next (crowd gs' wc2 sl'), t') ∧ Q fr2 (up2 ++ [c0]) w2 ∧ gs'.size = gs.size ∧ gs'[0]? = some (G fr2 (up2 ++ base)) ∧ Same w2 wc2 ∧ FR X Fb true ρ2 fr2 fr2 ∧ FsR X Fb true ρ2 up2 up2 ∧ WN X ρ2 w2 wc2 ∧ ρ.le ρ2 ∧ NB w2 ∧
          Leavers X.P t' gs' q' ∧ PastW SB wc2 gs'.size t' ∧ FootOK SB (rng ρ2) (own X ρ2) wc2 := by
  intro fr cs w h
  induction h with
  | @done fr cs w hq =>
    rintro ρ up base gs wc sl t q rfl _ hf hu hw hs hn hB h0 hL hP hF
    exact ⟨0, gs, fr, up, w, wc, sl, t, q, ρ, rfl, hq, rfl, h0, hs, hf, hu, hw, ρ.le_refl, hn, hL, hP, hF⟩
  | @step fr cs w nf nc nw ne hstep hm ih =>
    rintro ρ up base gs wc sl t q rfl hbase hf hu hw hs hn hB h0 hL hP hF
    have key : ∀ d, ∃ fr1 up1 w1 ρ1 es, stepG X.P true (G fr (up ++ base)) (wc.at d) = .go (G fr1 (up1 ++ base)) (shf wc.tape (w.drawn, d) w1) es ∧
        (∃ τ, (Agree w τ) ∧ fr1 = nf τ ∧ up1 ++ [c0] = nc τ ∧ w1 = nw τ) ∧ FR X Fb true ρ1 fr1 fr1 ∧ FsR X Fb true ρ1 up1 up1 ∧ WR X ρ1 w1 (shf wc.tape (w.drawn, d) w1) ∧ ρ.le ρ1 ∧ NB w1 ∧ Bot (fr1 :: up1) ∧
        StepOK (rng ρ) (own X ρ) (wc.at d) (rng ρ1) (own X ρ1) (shf wc.tape (w.drawn, d) w1) es := fun d => by
      let τ : Tape := fun i q => if i < w.drawn then w.tape i q else wc.tape (i - w.drawn + d) q
      have ha : Agree w τ := fun i q hi => if_pos hi
      have hfit : Fit wc.tape (w.drawn, d) (re w τ) := ⟨Nat.le_refl _, fun i q hi => by
        have hi' : ¬ i < w.drawn := Nat.not_lt.2 hi
        exact (if_neg hi').symm⟩
      have esh : shf wc.tape (w.drawn, d) (re w τ) = wc.at d := by
        have h1 := hs.heap; have h2 := hs.os; have h3 := hs.output
        obtain ⟨hp, tp, dr, os, out⟩ := wc
        simp only at h1 h2 h3
        subst h1; subst h2; subst h3
        simp [shf, re, World.at]
      have hw' : WR X ρ (re w τ) (wc.at d) := by
        obtain ⟨τ0, _, k⟩ := hw
        refine ⟨k.fn, k.inj, k.heap, fun i q => ?_, k.sh⟩
        have h1 : ¬ w.drawn + i < w.drawn := by omega
        have h2 : w.drawn + i - w.drawn + d = d + i := by omega
        have h3 : τ (w.drawn + i) q = wc.tape (w.drawn + i - w.drawn + d) q := if_neg h1
        rw [h2] at h3
        exact h3
      have hst : stepG X.P true (G fr (up ++ [c0])) (re w τ) = .go (G (nf τ) (nc τ)) (nw τ) (ne τ) := hstep τ ha
      by_cases hgo : fr.mode = .run ∨ fr.defers ≠ [] ∨ up ≠ []
      · rcases step_ba S hf hw' true hB hgo with ⟨fr1, up1, w1, es, hba⟩ | hba
        · have e1 : stepG X.P true (G fr (up ++ [c0])) (re w τ) = _ := hba [c0]
          rw [hst] at e1
          have e2 : stepG X.P true (G fr (up ++ base)) (re w τ) = _ := hba base
          have hne : up ++ base ≠ [] := by simp [hbase]
          obtain ⟨e3, hfit1⟩ := step_sh S (cs := up ++ base) hf hw' true hne _ _ _ e2 wc.tape (w.drawn, d) hfit
          rw [esh] at e3
          have e3 : stepG X.P true (G fr (up ++ base)) (wc.at d) = _ := e3
          have out := sim_step S (base := base) (base' := base) hf hu hw' hn hB hgo true true
          rw [hPP, e3, e2] at out
          generalize hg : GStep.go (G fr1 (up1 ++ base)) w1 es = s at out
          cases out with
          | @nice f1 f1' u1 u1' ρ1 x1 x1' es1 es1' e h1 h2 h3 h4 h5 h6 h7 h8 =>
            have hgg : fr1 = f1 ∧ up1 ++ base = u1 ++ base ∧ w1 = x1 := by
              injection hg with a b c
              injection a with a1 a2
              exact ⟨a1, a2, b⟩
            obtain ⟨rfl, hu1, rfl⟩ := hgg
            obtain rfl := List.append_cancel_right hu1
            have hee : fr1 = f1' ∧ up1 ++ base = u1' ++ base ∧ shf wc.tape (w.drawn, d) w1 = x1' ∧ es = es1' := by
              injection e with a b c
              injection a with a1 a2
              exact ⟨a1, a2, b, c⟩
            obtain ⟨rfl, hu2, rfl, rfl⟩ := hee
            obtain rfl := List.append_cancel_right hu2
            have e1' : nf τ = fr1 ∧ nc τ = up1 ++ [c0] ∧ nw τ = w1 := by
              injection e1 with a b c
              injection a with a1 a2
              exact ⟨a1, a2, b⟩
            exact ⟨fr1, up1, w1, ρ1, es, e3, ⟨τ, ha, e1'.1.symm, e1'.2.1.symm, e1'.2.2.symm⟩, h1, h2, h3, h4.le, h7, h8, stepOK_of hw' h4 h3 h6⟩
          | special k1 k2 => cases k2
          | @panic f1 u1 ch x1 es1 h1 h2 =>
            exfalso
            have hgg : fr1 = { f1 with mode := .panicking ch } ∧ up1 ++ base = u1 ++ base ∧ w1 = x1 := by
              injection hg with a b c
              injection a with a1 a2
              exact ⟨a1, a2, b⟩
            obtain ⟨rfl, hu1, rfl⟩ := hgg
            obtain rfl := List.append_cancel_right hu1
            have e1' : nf τ = { f1 with mode := .panicking ch } ∧ nc τ = up1 ++ [c0] ∧ nw τ = w1 := by
              injection e1 with a b c
              injection a with a1 a2
              exact ⟨a1, a2, b⟩
            have hmu := hm τ ha
            rw [e1'.1, e1'.2.1, e1'.2.2] at hmu
            exact must_no_panic hQ hmu trivial ⟨_, rfl⟩ (.inl ⟨_, rfl, h1, h2⟩)
          | ended => cases hg
        · exact absurd hst (hba _ _ _ _)
      · exfalso
        have hup : up = [] := Classical.byContradiction fun h => hgo (.inr (.inr h))
        subst hup
        obtain ⟨h1, h2, h3⟩ := end_panics S hf hw' hn (fun h => hgo (h.imp id .inl)) hst
        exact must_no_panic hQ (hm τ ha) h1 h2 h3
    have hpos : 0 < gs.size := (Array.getElem?_eq_some_iff.1 h0).1
    obtain ⟨N, gs1, a1, d, wc1, es, sl1, t1, q1, hr, hgo, hz, h01, hL1, hP1, _⟩ := beside_one (P := X.P) (SB := SB) (sl := sl) h0 rfl hL hP fun d => by
      obtain ⟨fr1, up1, w1, ρ1, es, e, _, _, _, _, _, _, _, ok⟩ := key d
      have hFd : FootOK SB (rng ρ) (own X ρ) (wc.at d) := ⟨hF.apart, hF.low, hF.own, hF.foot⟩
      have hF' := hFd.step ok
      exact ⟨_, _, es, e, ok.size, fun x hx => ⟨evL_of (ok.ev x hx) hF'.apart hF'.foot, fun y hy => (evF_mem (ok.ev x hx) hy).1⟩⟩
    obtain ⟨fr1, up1, w1, ρ1, es', e, ⟨τ, ha, rfl, hnc, rfl⟩, h1, h2, h3, hle, h7, h8, ok⟩ := key d
    rw [e] at hgo
    have hgg : G (nf τ) (up1 ++ base) = a1 ∧ shf wc.tape (w.drawn, d) (nw τ) = wc1 ∧ es' = es := by
      injection hgo with a b c
      exact ⟨a, b, c⟩
    obtain ⟨rfl, rfl, rfl⟩ := hgg
    have hFd : FootOK SB (rng ρ) (own X ρ) (wc.at d) := ⟨hF.apart, hF.low, hF.own, hF.foot⟩
    obtain ⟨N', gs', fr2, up2, w2, wc2, sl', t', q', ρ2, hr', hq, hz', h0', hs', g1, g2, g3, g4, g5, hL', hP', hF'⟩ := ih τ ha hnc.symm hbase h1 h2 (WN.of h3) ⟨rfl, rfl, rfl⟩ h7 h8 h01 hL1 hP1 (hFd.step ok)
    exact ⟨N + N', gs', fr2, up2, w2, wc2, sl', t', q', ρ2, runNT_trans _ hr hr', hq, hz'.trans hz, h0', hs', g1, g2, g3, Rel.le_trans hle g4, g5, hL', hP', hF'⟩
end

end Go.Proofs.YtkpekiajdlolnabGreat.Ph

/-
  A LONE PIECE OF CODE, CARRIED OUT BESIDE LEAVERS.
-/
namespace Go.Proofs.YtkpekiajdlolnabGreat.Ph
open Go Go.Conc Go.ConcN Go.Proofs.YtkpekiajdlolnabGreat.Sim

/-- where goroutine 0 stands between two pieces: its frames name what lies within ρ; nobody else does but leave. -/
structure At (X : Cx) (Fb : FuncId → Bool) (SB : Blocks) (ρ : Rel) (gs : Array Goroutine) (fr : Frame) (cs : List Frame) (w : World) (t : Trace) (q : Nat → Nat) : Prop where
  g0 : gs[0]? = some (G fr cs)
  leavers : Leavers X.P t gs q
  past : PastW SB w gs.size t
  foot : FootOK SB (rng ρ) (own X ρ) w
  fr : FR X Fb true ρ fr fr
  cs : FsR X Fb true ρ cs cs
  wr : WR X ρ w w
  nb : NB w
def Runs (P : Program) (gs : Array Goroutine) (w : World) (sl : Option (Nat × Nat)) (t : Trace) (gs' : Array Goroutine) (w' : World) (sl' : Option (Nat × Nat)) (t' : Trace) : Prop := ∃ N, runNT P N (crowd gs w sl) t = (.next (crowd gs' w' sl'), t')
theorem Runs.trans {P : Program} {g1 g2 g3 : Array Goroutine} {w1 w2 w3 : World} {s1 s2 s3 : Option (Nat × Nat)} {t1 t2 t3 : Trace} (h : Runs P g1 w1 s1 t1 g2 w2 s2 t2) (k : Runs P g2 w2 s2 t2 g3 w3 s3 t3) : Runs P g1 w1 s1 t1 g3 w3 s3 t3 := by
  obtain ⟨N, h⟩ := h
  obtain ⟨M, k⟩ := k
  exact ⟨N + M, runNT_trans _ h k⟩

/-- the frame in which a piece is left. -/
def Lands (b : Frame) (k : List Item) : Exit → Act → Frame → Prop
  | .normal, a, fr => fr = b.at a k
  | .exit id, a, fr => ∃ k', exitTo id k = some k' ∧ fr = b.at a k'
  | .ret, a, fr => ∃ todo, fr = { b.at a todo with mode := .returning }
  | _, _, _ => False
/-- no way out but these. -/
def Plain (k : List Item) (Q : Exit → Act → World → Prop) : Prop := ∀ e a w, Q e a w → match e with
  | .normal | .ret => True
  | .exit id => ∃ k', exitTo id k = some k'
  | _ => False
def Tgt (b : Frame) (k : List Item) (Q : Exit → Act → World → Prop) (fr : Frame) (cs : List Frame) (w : World) : Prop := cs = [c0] ∧ ∃ e a, Q e a w ∧ Lands b k e a fr

section
variable {X : Cx} {Fb : FuncId → Bool} {SB : Blocks}

theorem must_of_piece (S : X.Set Fb true (fun _ => false)) {fr b : Frame} {k : List Item} {w : World} {Q : Exit → Act → World → Prop} (hinv : Inv X Fb true fr [c0] w) (hpl : Plain k Q) (hQS : ∀ e a w wc, Same w wc → Q e a w → Q e a wc)
    (hp : ∀ τ, Agree w τ → ∃ e a' w', Q e a' w' ∧ Arrives X.P (lone fr [c0] (re w τ)) b k [c0] e a' w') : LMust X.P (Tgt b k Q) fr [c0] w := by
  refine bar S (fun fr cs w h ch => ?_) (fun fr cs w τ hi ha h => ?_) hinv (fun τ ha => ?_)
  · obtain ⟨_, e, a, _, hl⟩ := h
    cases e with
    | normal => rw [show fr = b.at a k from hl]; intro h; cases h
    | exit id => obtain ⟨k', _, rfl⟩ := hl; intro h; cases h
    | ret => obtain ⟨todo, rfl⟩ := hl; intro h; cases h
    | _ => exact hl.elim
  · obtain ⟨h1, e, a, h2, h3⟩ := h
    exact ⟨h1, e, a, hQS e a (re w τ) w ⟨rfl, rfl, rfl⟩ h2, h3⟩
  · obtain ⟨e, a', w', hq, harr⟩ := hp τ ha
    have hx := hpl _ _ _ hq
    have go : ∀ {fr2 : Frame}, Lands b k e a' fr2 → Steps X.P (lone fr [c0] (re w τ)) (lone fr2 [c0] w') → LRun X.P (Tgt b k Q) fr [c0] (re w τ) := fun hl hs => by
      obtain ⟨n, hn⟩ := hs
      exact conv S (Q := Tgt b k Q) ⟨rfl, e, a', hq, hl⟩ n (.inl (hinv.re τ)) hn
    cases e with
    | normal => exact go rfl harr
    | exit id => obtain ⟨k', hk⟩ := hx; exact go ⟨k', hk, rfl⟩ (harr k' hk)
    | ret => obtain ⟨todo, hs⟩ := harr; exact go ⟨todo, rfl⟩ hs
    | _ => exact hx.elim

/-- ████ A LONE PIECE BESIDE LEAVERS. ████ -/
theorem piece (hPP : X.P' = X.P) (S : X.Set Fb true (fun _ => false)) {ρ : Rel} {gs : Array Goroutine} {fr b : Frame} {k : List Item} {cs : List Frame} {w : World} {sl : Option (Nat × Nat)} {t : Trace} {q : Nat → Nat} {Q : Exit → Act → World → Prop}
    (h : At X Fb SB ρ gs fr cs w t q) (hcs : cs ≠ []) (hro : fr.roundOf = none) (hpl : Plain k Q) (hQS : ∀ e a w wc, Same w wc → Q e a w → Q e a wc)
    (hp : ∀ τ, Agree w τ → ∃ e a' w', Q e a' w' ∧ Arrives X.P (lone fr [c0] (re w τ)) b k [c0] e a' w') :
    ∃ (gs' : Array Goroutine) (e : Exit) (a' : Act) (fr' : Frame) (w' : World) (sl' : Option (Nat × Nat)) (t' : Trace) (q' : Nat → Nat) (ρ' : Rel),
      Runs X.P gs w sl t gs' w' sl' t' ∧ Q e a' w' ∧ Lands b k e a' fr' ∧ gs'.size = gs.size ∧ ρ.le ρ' ∧ At X Fb SB ρ' gs' fr' cs w' t' q' := by
  have hB : Bot [fr] := by
    intro f hf
    simp at hf
    subst hf
    exact hro
  have hinv : Inv X Fb true fr [c0] w := ⟨ρ, fr, [], [], w, rfl, h.fr, .nil, h.wr, h.nb, hB⟩
  have hm := must_of_piece S hinv hpl hQS hp
  obtain ⟨N, gs', fr2, up2, w2, wc2, sl', t', q', ρ2, hr, ⟨htc, e, a', hq, hl⟩, hz, h0', hs, g1, g2, g3, g4, g5, hL', hP', hF'⟩ := beside_lone hPP S (fun fr cs w h ch => by
      obtain ⟨_, e, a, _, hl⟩ := h
      cases e with
      | normal => rw [show fr = b.at a k from hl]; intro h; cases h
      | exit id => obtain ⟨k', _, rfl⟩ := hl; intro h; cases h
      | ret => obtain ⟨todo, rfl⟩ := hl; intro h; cases h
      | _ => exact hl.elim) hm (up := []) rfl hcs h.fr .nil (WN.of h.wr) (Same.refl w) h.nb hB h.g0 h.leavers h.past h.foot
  have hu : up2 = [] := by
    have := congrArg List.length htc
    simp at this
    exact List.eq_nil_of_length_eq_zero (by simpa using this)
  subst hu
  refine ⟨gs', e, a', fr2, wc2, sl', t', q', ρ2, ⟨N, hr⟩, hQS _ _ _ _ hs hq, hl, hz, g4, ⟨h0', hL', hP', hF', g1, h.cs.mono g4, ?_, ?_⟩⟩
  · obtain ⟨τ0, _, k0⟩ := g3
    refine ⟨k0.fn, k0.inj, fun {a b} hab => ?_, fun _ _ => rfl, fun a ha => absurd ha (S.wrs rfl a)⟩
    obtain ⟨o, o', k1, k2, k3⟩ := k0.heap hab
    exact ⟨o, o', by rw [hs.heap]; exact k1, k2, k3⟩
  · exact g5
end

end Go.Proofs.YtkpekiajdlolnabGreat.Ph
