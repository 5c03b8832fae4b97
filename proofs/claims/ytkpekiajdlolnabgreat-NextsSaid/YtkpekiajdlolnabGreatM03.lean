/-
 PROVED IN PARTS: text 3 of 8 of the carrying ground of the claim (see each part's own remark). Conditions: those that each theorem names.
-/
import Derived.Test.YtkpekiajdlolnabGreatM02
import Derived.Test.YtkpekiajdlolnabGreatChecked
import Derived.Conc.DeferLaws
import Derived.Conc.CompanyDraw
import Derived.Conc.Own3
import Derived.Conc.WgWords
set_option linter.unusedVariables false
set_option linter.unusedSimpArgs false
set_option maxRecDepth 100000
set_option maxHeartbeats 4000000
namespace Go.Proofs.YtkpekiajdlolnabGreat.Ph
section
open Go Go.Conc Go.ConcN Sim
open Go.ConcR (KK WgAt stA smA rd wr mk Payload DC0 g_of_ofEvents Bk bk_of_mute ofEvent_loc_mark ofEvent_cell ofEvent_mk)
section
variable {o Wg C n : Nat} {SB : Blocks} {D : Nat → WX} {w : World} {t : Trace}
theorem qox (tr : qmq o Wg C SB n D w t) (ho : 0 < o) {q : Nat} (hq : t.act? q = some (.mark (.acquire (stA Wg)))) (hg : t.g? q = some 0) (hh : t.heard q) (all : ∀ i, i < n → ∃ r, RelBy (stA Wg) t (o + i) r ∧ r < q) (h0 : Deaf t 0 = 0) :
  vo (fun b => SB b ∨ b = Wg) w (o + n) t := by
 obtain ⟨p, p0, p1, p2⟩ := tr.norel
 have late : ∀ {i g : Nat}, t.g? i = some g → o ≤ g → t.counts i → HappensBefore t i q := by
  intro i g hgi hle hc
  obtain ⟨op, hop, rfl⟩ := Option.map_eq_some_iff.1 hgi
  have hb := tr.ct.gs i op hop
  obtain ⟨r, hr, hrq⟩ := all (op.g - o) (by omega)
  rw [show o + (op.g - o) = op.g by omega] at hr
  have hrp : p ≤ r := Nat.le_of_not_lt fun h => by have := p1 r _ h hr.g; omega
  have he : HappensBefore t r q := .single (.inr ⟨.marked hrq (.inr hr.act) hq (fun k hk _ => p2 k (by omega)), hr.heard, hh⟩)
  have hle : i ≤ r := Nat.le_of_not_lt fun hlt => hr.after i hlt hgi hc
  rcases Nat.lt_or_ge i r with hlt | hge
  ·exact .trans (.single (.inl ⟨hlt, op.g, hgi, hr.g⟩)) he
  ·obtain rfl : i = r := by omega
   exact he
 obtain ⟨B, hB⟩ := q1u t
 refine ⟨⟨B, tr.ct.nr, fun i a ha hm => ?_, fun i g hgi hne hc => ?_, h0, hB⟩, tr.seen, tr.mem, tr.ct.quiet, fun op hop => ?_⟩
 ·rcases tr.known i a ha with h | h | ⟨g, h1, h2, h3⟩
  ·exact .inl h
  ·exact .inr h
  ·refine .inl ?_
   obtain ⟨z, hz, hz0⟩ := Option.map_eq_some_iff.1 hg
   exact ⟨q, z, hz, hz0, .inr (late h1 h2 ⟨a, ha, hm, .inl h3⟩)⟩
 ·rcases Nat.lt_or_ge g o with hlt | hge
  ·exact tr.hand i g hgi hne hlt hc
  ·exact ⟨q, hg, late hgi hge hc⟩
 ·obtain ⟨i, hi, rfl⟩ := Array.mem_iff_getElem.1 hop
  have := tr.ct.gs i _ (Array.getElem?_eq_getElem hi)
  omega
end
section
variable [Payload] (P : Program) (ty : TypeId) (o Wg C n : Nat) (SB : Blocks) (jb : Nat → Blocks → Value → World → Prop) (K : Goroutine → World → Prop) (L0 : Nat) (w0 : World)
structure Joined (gs : Array Goroutine) (a : Goroutine) (w : World) (t : Trace) (D : Nat → WX) (FM : Blocks) (q : Nat → Nat) : Prop where
 size : gs.size = o + n
 main : gs[0]? = some a
 k : K a w
 leavers : Leavers P t gs q
 past : vo (fun b => SB b ∨ b = Wg) w gs.size t
 res : ∀ i, i < n → jb i (D i).F (D i).val w ∧ Has C i (D i).val w
 pay : PayAt C n w
 sep : Sep Wg C SB n D FM (fun _ => False) w
 kept : Kept Wg C L0 w0 n D (fun _ => False) w
end
section
variable [Payload] {P : Program} {ty : TypeId} {o Wg C n : Nat} {SB : Blocks} {jb : Nat → Blocks → Value → World → Prop} {K : Goroutine → World → Prop} {L0 : Nat} {w0 : World} {gs : Array Goroutine} {w w' : World} {sl : Option (Nat × Nat)} {j : Nat} {D : Nat → WX} {q : Nat → Nat} {tag tag' : Tag} {f0 f' d0 : Nat} {rk rk' : Rank} {FM OM FM' OM' : Blocks} {a a' : Goroutine} {t : Trace} {st sm st' sm' : Int} {es : Array Event}
section
variable (jf : ∀ i F v w w1, jb i F v w → Ext F w w1 → jb i F v w1) (ha : gs[0]? = some a) (hk0 : Kept Wg C L0 w0 j D OM w) (S : Sep Wg C SB j D FM OM w) (hwg : WgAt ty Wg w st sm)
include jf ha hk0 S hwg
theorem q0j (hcom : kz P ty o Wg C n SB jb j gs w t D q 0) (hmode : Mo j (xd D) .acq st sm) (hjt : JT n .acq j)
  (h : Goes P true (RM ty Wg FM) DC0 (qam P (.acquire (stA Wg)) K) f0 a w) :
  (∃ gs' a' ops q', runT P (crowd gs w sl) 0 = (.next (crowd gs' w sl), ops) ∧ Joined P o Wg C n SB jb K L0 w0 gs' a' w (t ++ ops) D FM q') ∨
  Out P ty o Wg C n SB jb K L0 w0 gs w sl t 0 (psi n (Vc j (xd D)) .acq + qah j D, ranks n D .leaf, f0 + 2 * qbq j D + 2 * sumTo o q) := by
 rcases Goes.cases h with hstop | ⟨m', rfl, hstep⟩
 ·left
  obtain ⟨_, a', hgo, hk⟩ := hstop w (jl w)
  obtain ⟨hq, rfl, rfl⟩ := hmode.fin_inv trivial
  obtain rfl : j = n := hjt
  have hop := hcom.qke
  have hst : ∀ i, i < j → (D i).stage = 1 := fun i hi => by
   have := hq i hi
   simp only [xd] at this
   split at this
   ·omega
   ·exact this
  have hrun := runT_crowd_go (P := P) (sl := sl) (i := 0) ha (show stepG P (0 == 0) a w = _ from hgo)
  have hcom' := hcom.step0 (fn := a.frame.fn) (pos := a.frame.place) jf S (es := #[mk (.acquire (stA Wg))]) (w' := w) (a := a) (a' := a') (fun i hi => ⟨Ext.refl .., RW.refl w⟩) (jy _)
   (qf8 (by intro e he y hy; simp at he; subst he; cases hy)) (by intro e he y hy; simp at he; subst he; cases hy) (qx4 (by simp)) (by intro e he y hy; simp at he; subst he; cases hy) hcom.pay
  have e1 : MemOp.ofEvents 0 a.frame.fn a.frame.place #[mk (.acquire (stA Wg))] = #[{ g := 0, fn := a.frame.fn, pos := a.frame.place, act := .mark (.acquire (stA Wg)) }] := by rw [ofEvents_eq]; simp [ofEvent_mk]
  have hy : (t ++ #[({ g := 0, fn := a.frame.fn, pos := a.frame.place, act := .mark (.acquire (stA Wg)) } : MemOp)])[t.size]? = some { g := 0, fn := a.frame.fn, pos := a.frame.place, act := .mark (.acquire (stA Wg)) } := by simp
  have hP := qox hcom'.tr hop (q := t.size) (by rw [e1, act?_of hy]) (by rw [e1]; simp [Trace.g?]) (by rw [e1]; exact ⟨0, by simp [Trace.g?], by rw [deaf_old (jy _)]; exact hcom.deaf0⟩)
   (fun i hi => by
    obtain ⟨r, hr⟩ := hcom.rel i hi (by rw [hst i hi]; omega)
    exact ⟨r, hr.appOther g_of_ofEvents (by omega), lt_of_act? hr.act⟩) (by rw [hcom'.deaf0]; rfl)
  have wkq : ∀ i, i < j → ∃ g, ((gs.map (woken P a a' w)).setIfInBounds 0 a')[o + i]? = some g ∧ QuitsD P (D i).fuel (D i).deaf g ∧ jb i (D i).F (D i).val w := fun i hi => by
   obtain ⟨g, hg, hs⟩ := hcom'.wk i hi
   have h1 := hst i hi
   cases hs with
   |own h9 _ _ _ => omega
   |lib h hr => exact ⟨g, hg, h.quits h1, hr⟩
  refine ⟨_, a', _, fun i => if i < o then q i else (D (i - o)).fuel, hrun, by simp [hcom.size], get_map_set_same _ _ _ (by rw [hcom.size]; omega), hk, ⟨fun i g h0 hg => ?_, fun k hk' => ?_⟩, ?_, fun i hi => ⟨?_, ?_⟩, hcom.pay, S.none, hk0.none⟩
  ·show QuitsD P (if i < o then q i else (D (i - o)).fuel) _ g
   by_cases hlt : i < o
   ·rw [if_pos hlt]; exact hcom'.old i g h0 hlt hg
   ·rw [if_neg hlt]
    have hi : i < o + j := by have := (zx hg).1; rw [hcom'.size] at this; exact this
    obtain ⟨g', hg', hq', _⟩ := wkq (i - o) (by omega)
    rw [show o + (i - o) = i by omega] at hg'
    obtain rfl : g = g' := by rw [hg] at hg'; exact xoi hg'
    have := hcom'.deafW (i - o) (by omega)
    rw [show o + (i - o) = i by omega] at this
    rw [this]; exact hq'
  ·rw [hcom'.size] at hk'; exact hcom'.above k hk'
  ·rw [hcom'.size]; exact hP
  ·exact (wkq i hi).choose_spec.2.2
  ·exact hcom.has i hi (by rw [hst i hi]; omega)
 ·right
  obtain ⟨a', w', es, hgo, hD, hg'⟩ := hstep w (jl w)
  exact qd0 jf ha hcom S hk0 hwg hmode hjt hgo hD (.acq hg') (by omega)
end
theorem WS.running_of {i : Nat} {d : WX} {g : Goroutine} (h : WS P ty Wg C n jb i d g w) (hs : d.stage ≠ 1) : g.status = .running := by
 cases h with
 |own h1 h2 h3 h => exact qnj (fun _ _ _ _ x => x.1) h
 |lib h hr => exact h.running_of hs
theorem someone_runs (ha : gs[0]? = some a) (hms : MS P ty Wg C n jb K tag f0 d0 rk FM OM a w) (hcom : kz P ty o Wg C n SB jb j gs w t D q d0) (hmode : Mo j (xd D) tag st sm) :
  ∃ (i : Nat) (g : Goroutine), gs[i]? = some g ∧ g.status = .running := by
 rcases hms.status with ⟨hs, _⟩ | ⟨_, rfl⟩
 ·exact ⟨0, a, ha, hs⟩
 ·have xs : ∀ {i : Nat}, (xd D i).stage ≠ 1 → (D i).stage ≠ 1 := fun {i} h e => h (by simp only [xd, e]; rfl)
  cases hmode with
  |opn h1 _ _ => exact h1.elim
  |reg _ _ h3 =>
   obtain ⟨i, hi, h5⟩ := exists_counted h3
   obtain ⟨g, hg, hs⟩ := hcom.wk i hi
   exact ⟨o + i, g, hg, hs.running_of (xs (by omega))⟩
  |last L _ h2 h3 _ =>
   obtain ⟨g, hg, hs⟩ := hcom.wk L h2
   exact ⟨o + L, g, hg, hs.running_of (xs (by omega))⟩
  |sema h1 _ => rcases h1 with h1 | h1 <;> cases h1
  |fin h1 _ => exact h1.elim
theorem all_awake (ha : gs[0]? = some a) (hms : MS P ty Wg C n jb K tag f0 d0 rk FM OM a w) (hcom : kz P ty o Wg C n SB jb j gs w t D q d0) : ∀ g ∈ gs, awake g := by
 intro g hg tm
 obtain ⟨i, hi⟩ := Array.mem_iff_getElem?.1 hg
 rcases Nat.eq_zero_or_pos i with rfl | hpos
 ·rw [ha] at hi; cases hi
  rcases hms.status with ⟨hs, _⟩ | ⟨hs, _⟩ <;> rw [hs] <;> simp
 ·by_cases hlt : i < o
  ·rcases (hcom.old i g hpos hlt hi).status with h | h <;> rw [h] <;> simp
  ·have hi2 : i < o + j := by have := (zx hi).1; rw [hcom.size] at this; exact this
   obtain ⟨g', hg', hs⟩ := hcom.wk (i - o) (by omega)
   rw [show o + (i - o) = i by omega] at hg'
   rw [hi] at hg'; cases hg'
   rcases hs.status with h | h <;> rw [h] <;> simp
theorem qrd (jf : ∀ i F v w w1, jb i F v w → Ext F w w1 → jb i F v w1) (hn : n < 2147483648) : ∀ (μ : Mea) (m : Machine) (t : Trace), qhp P ty o Wg C n SB jb K L0 w0 μ m t →
  (∃ gs' a' w' sl' ops D FM q', stepT P m = (.next (crowd gs' w' sl'), ops) ∧ Joined P o Wg C n SB jb K L0 w0 gs' a' w' (t ++ ops) D FM q') ∨
  (∃ m' ops μ', stepT P m = (.next m', ops) ∧ MLt (n + 1) μ' μ ∧ qhp P ty o Wg C n SB jb K L0 w0 μ' m' (t ++ ops)) := by
 rintro μ m t ⟨gs, w, sl, j, D, q, tag, f0, d0, rk, FM, OM, a, st, sm, rfl, ha, hms, hcom, S, hwg, hmode, hjt, hk0, rfl⟩
 obtain ⟨i, g, d, sl', hg, hrun, hstep⟩ := crowd_pick (P := P) (w := w) (sl := sl) (all_awake ha hms hcom) (someone_runs ha hms hcom hmode)
 rw [hstep]
 have hms := hms.rely (w1 := w.at d) ⟨⟨jy _, fun _ _ => rfl⟩, fun x => x⟩
 have hcom := hcom.at jf d
 have hwg : WgAt ty Wg (w.at d) st sm := hwg
 have S : Sep Wg C SB j D FM OM (w.at d) := ⟨S.wF, S.wO, S.apart, S.mF, S.mO, S.lW, S.lC, S.lS, S.hCW, S.sW, S.sC⟩
 have hk0 : Kept Wg C L0 w0 j D OM (w.at d) := ⟨hk0.keep, hk0.lW, hk0.lC, hk0.lO, hk0.lM, hk0.tape, hk0.os, hk0.output, hk0.nb⟩
 generalize w.at d = w at *
 have hop := hcom.qke
 rcases Nat.eq_zero_or_pos i with rfl | hpos
 ·obtain rfl : g = a := by rw [ha] at hg; exact (xoi hg).symm
  cases hms with
  | @wg r _ _ _ _ _ hr h =>
   right
   cases rk with
   |node f => exact q7k jf ha hk0 S hwg hcom hmode hjt hr h
   |leaf =>
    have hs := h w (Ext.refl ..)
    cases r with
    |zero =>
     obtain ⟨A, hA1, hA2, m₂, hk⟩ := hs.2 ⟨_, _, hwg⟩
     obtain ⟨m₁, ops, μ', h1, h2, h3⟩ := qxj (sl := sl') jf ha hk0 S hwg hA1 hA2 hcom (hmode.reopen trivial trivial rfl (by simp)) hjt hk
     exact ⟨m₁, ops, μ', h1, h2.lt1 (by simp only [psi]; omega), h3⟩
    |succ r =>
     obtain ⟨m₂, hk⟩ := hs.2 ⟨_, _, hwg⟩
     obtain ⟨m₁, ops, μ', h1, h2, h3⟩ := qsk (sl := sl') jf ha hk0 S hwg hcom (hmode.reopen (tag' := .kdS r) trivial trivial rfl (by simp)) (by have : j + (r + 1) = n := hjt; show j + r + 1 = n; omega) (by omega) hk
     exact ⟨m₁, ops, μ', h1, h2.lt1 (by simp only [psi]; omega), h3⟩
  |kdS hr h => exact .inr (qsk jf ha hk0 S hwg hcom hmode hjt hr h)
  |ad hr h => exact .inr (q4u jf hn ha hk0 S hwg hcom hmode hjt hr h)
  |rs hr h => exact .inr (q6g jf ha hk0 S hwg hcom hmode hjt hr h)
  |en hr h => exact .inr (q46 jf ha hk0 S hwg hcom hmode hjt hr h)
  |gos hr h => exact .inr (q5a jf ha hk0 S hwg hcom hmode hjt hr h)
  |kd h1 h2 h => exact .inr (qxj jf ha hk0 S hwg h1 h2 hcom hmode hjt h)
  |anch h1 h2 h => exact .inr (qvy jf hn ha hk0 S hwg h1 h2 hcom hmode hjt h)
  |ld h1 h2 h => exact .inr (qxr jf hn ha hk0 S hwg h1 h2 hcom hmode hjt h)
  |cs h1 h2 h => exact .inr (q41 jf hn ha hk0 S hwg h1 h2 hcom hmode hjt h)
  |ws h => exact .inr (q7l jf ha hk0 S hwg hcom hmode hjt h)
  |sm h => exact .inr (q6q jf ha hk0 S hwg hcom hmode hjt h)
  |blk h => simp at hrun
  |l2 h => exact .inr (q5l jf ha hk0 S hwg hcom hmode hjt h)
  |en2 h => exact .inr (q08 jf ha hk0 S hwg hcom hmode hjt h)
  |acq h =>
   rcases q0j (sl := sl') jf ha hk0 S hwg hcom hmode hjt h with ⟨gs', a', ops, q', h1, h2⟩ | h
   ·exact .inl ⟨gs', a', w, sl', ops, D, FM, q', h1, h2⟩
   ·exact .inr h
 ·right
  by_cases hlt : i < o
  ·exact q14 ha hms hcom S hjt hk0 hwg (fun tag' ht => hmode.retag ht) hpos hlt hg hrun
  ·have hi2 : i < o + j := by have := (zx hg).1; rw [hcom.size] at this; exact this
   obtain ⟨i', rfl⟩ : ∃ i', i = o + i' := ⟨i - o, by omega⟩
   have hi' : i' < j := by omega
   obtain ⟨g', hg', hs⟩ := hcom.wk i' hi'
   obtain rfl : g = g' := by rw [hg] at hg'; exact xoi hg'
   cases hs with
   |own h9 hd hf hw =>
    generalize hrk : (D i').rank = rkw at hw
    cases rkw with
    |leaf => exact quz jf ha hms hcom S hjt hk0 hwg hmode hi' hg h9 hd (hw w (Ext.refl ..))
    |node f => exact q15 jf ha hms hcom S hjt hk0 hwg hmode hi' hg h9 hd hrk hw
   |lib h hr => exact q1q jf hn ha hms hcom S hjt hk0 hwg hmode hi' hg hrun h hr
theorem que (jf : ∀ i F v w w1, jb i F v w → Ext F w w1 → jb i F v w1) (hn : n < 2147483648) : ∀ (μ : Mea) (m : Machine) (t : Trace), qhp P ty o Wg C n SB jb K L0 w0 μ m t →
  ∃ N gs' a' w' sl' t' D FM q', runNT P N m t = (.next (crowd gs' w' sl'), t') ∧ Joined P o Wg C n SB jb K L0 w0 gs' a' w' t' D FM q' := by
 intro μ
 induction μ using (MLt.wf (n + 1)).induction with
 |_ μ ih =>
  intro m t h
  rcases qrd jf hn μ m t h with ⟨gs', a', w', sl', ops, D, FM, q', h1, h2⟩ | ⟨m', ops, μ', h1, h2, h3⟩
  ·exact ⟨1, gs', a', w', sl', _, D, FM, q', by simp only [runNT, h1], h2⟩
  ·obtain ⟨N, gs', a', w', sl', t', D, FM, q', h4, h5⟩ := ih μ' h2 m' _ h3
   exact ⟨N + 1, gs', a', w', sl', t', D, FM, q', by simp only [runNT, h1]; exact h4, h5⟩
end
theorem runNT_trans {P : Program} (a : Nat) {b : Nat} {m m' : Machine} {t t' : Trace} {r : Stepped × Trace} (h : runNT P a m t = (.next m', t')) (k : runNT P b m' t' = r) : runNT P (a + b) m t = r := by
 rw [runNT_add, h]; exact k
theorem qb4.app {t u : Trace} {l : Loc} (h : qb4 t l) (hu : ∀ op ∈ u, ∀ x, op.act.touch? = some x → x.loc ≠ l) : qb4 (t ++ u) l := by
 intro i a ha
 obtain ⟨op, hop, hox⟩ := touch_of ha
 rcases getElem?_append_cases hop with ⟨hi, hop'⟩ | ⟨_, hopu⟩
 ·exact h i a (by rw [touchAt_of hop']; exact hox)
 ·exact hu op hopu a hox
theorem vo.at {SB : Blocks} {w : World} {n : Nat} {t : Trace} (h : vo SB w n t) (d : Nat) : vo SB (w.at d) n t := ⟨h.past, h.seen, h.mem, h.quiet, h.gs⟩
section
variable {P : Program} {SB : Blocks}
theorem qn2 : ∀ (M : Nat) (gs : Array Goroutine) (a : Goroutine) (w : World) (sl : Option (Nat × Nat)) (t : Trace) (q : Nat → Nat), sumTo gs.size q ≤ M → gs[0]? = some a → a.status = .running → Leavers P t gs q → vo SB w gs.size t →
  ∃ (N : Nat) (gs' : Array Goroutine) (sl1 : Option (Nat × Nat)) (d1 : Nat) (sl' : Option (Nat × Nat)) (t' : Trace) (q' : Nat → Nat) (d : Nat),
   runNT P N (crowd gs w sl) t = (.next (crowd gs' (w.at d1) sl1), t') ∧ stepT P (crowd gs' (w.at d1) sl1) = runT P (crowd gs' (w.at d) sl') 0 ∧ gs'.size = gs.size ∧ gs'[0]? = some a ∧ Leavers P t' gs' q' ∧ vo SB w gs'.size t' ∧ ∀ l, qb4 t l → qb4 t' l := by
 intro M
 induction M with
 |zero | succ M ih =>
  intro gs a w sl t q hM h0 hrun hL hP
  have haw : ∀ g ∈ gs, awake g := by
   intro g hg
   obtain ⟨i, hi, rfl⟩ := Array.mem_iff_getElem.1 hg
   rcases Nat.eq_zero_or_pos i with rfl | hpos
   ·have : gs[0] = a := by simpa [Array.getElem?_eq_getElem hi] using h0
    rw [this]; exact awake_of (.inl hrun)
   ·exact awake_of ((hL.old i _ hpos (Array.getElem?_eq_getElem hi)).status.elim .inl fun x => .inr (.inr x))
  obtain ⟨i, g, d, sl', hi, hg, hst⟩ := crowd_pick (P := P) (w := w) (sl := sl) haw ⟨0, a, h0, hrun⟩
  rcases Nat.eq_zero_or_pos i with rfl | hpos
  ·exact ⟨0, gs, sl, w.drawn, sl', t, q, d, rfl, hst, rfl, h0, hL, hP, fun _ h => h⟩
  ·have hq := hL.old i g hpos hi
   have hi0 : (i == 0) = false := by simp; omega
   have hlt : i < gs.size := (zx hi).1
   cases hqi : q i with
   |zero => rw [hqi] at hq; rw [hq.1] at hg; cases hg
   |succ k =>
    rw [hqi] at hq
    rcases hq with ⟨hf, _⟩ | ⟨_, g', es, hm, hstp, hq'⟩
    ·rw [hf] at hg; cases hg
    have hrunT := runT_crowd_go (P := P) (sl := sl') (i := i) hi (by rw [hi0]; exact hstp (w.at d))
    have hsz : ((gs.map (woken P g g' (w.at d))).setIfInBounds i g').size = gs.size := by simp
    have hsum : sumTo gs.size (upd q i k) + (k + 1) = sumTo gs.size q + k := by
     have := sumTo_upd q k id hlt
     simpa [hqi] using this
    first
    |(exfalso; omega)
    |obtain ⟨N, gs', sl1, d1, sl'', t', q', d', hr, hs', hz, h0', hL', hP', hfr⟩ := ih ((gs.map (woken P g g' (w.at d))).setIfInBounds i g') a (w.at d) sl' (t ++ MemOp.ofEvents i g.frame.fn g.frame.place es) (upd q i k) (by rw [hsz]; omega)
      (by
       have hne : i ≠ 0 := by omega
       rw [xne hne, Array.getElem?_map, h0]
       simp [woken_run hrun]) hrun
      ⟨fun j x hj hx => by
       by_cases hji : i = j
       ·subst hji
        rw [xsl (by simpa using hlt)] at hx
        obtain rfl := xoi hx
        rw [upd_same, Deaf_own]
        exact hq'
       ·rw [xne hji, Array.getElem?_map] at hx
        obtain ⟨y, hy, rfl⟩ := Option.map_eq_some_iff.1 hx
        have hqj := hL.old j y hj hy
        rw [woken_quitsD hqj, upd_ne q k (Ne.symm hji), Deaf_other t hji _ (fun op hop => by obtain ⟨e, _, rfl⟩ := Go.Conc.mem_ofEvents hop; rfl)]
        exact hqj, fun j hj => by
       rw [Deaf_other t (g' := i) (by simp at hj; omega) _ (fun op hop => by obtain ⟨e, _, rfl⟩ := Go.Conc.mem_ofEvents hop; rfl)]
       exact hL.above j (by simpa using hj)⟩
      (by rw [hsz]; exact (hP.at d).mute (by omega) hlt hm)
     exact ⟨N + 1, gs', sl1, d1, sl'', t', q', d', by simp only [runNT, hst, hrunT]; exact hr, hs', hz.trans hsz, h0', hL', ⟨hP'.past, hP'.seen, hP'.mem, hP'.quiet, hP'.gs⟩,
      fun l hl => hfr l (hl.app fun op hop x hx => by
       obtain ⟨e, he, rfl⟩ := Go.Conc.mem_ofEvents hop
       rw [touch_mute (hm e he)] at hx; cases hx)⟩
def EvZ (SB : Blocks) (B : Nat) (e : Event) : Prop := EvL (ShB SB) B e ∧ ∀ y, (MemAct.ofEvent e).touch? = some y → y.loc.isMemory = true
theorem vo.evs {w w' : World} {n : Nat} {t : Trace} (h : vo SB w n t) (hn : 0 < n) (hsz : w.heap.size ≤ w'.heap.size) {es : Array Event} (hes : ∀ e ∈ es, EvZ SB w'.heap.size e) (fn : FuncId) (pos : String) : vo SB w' n (t ++ MemOp.ofEvents 0 fn pos es) := by
 obtain ⟨B, hP⟩ := h.past
 refine ⟨⟨max B w'.heap.size, (hP.mono (Nat.le_max_left ..)).own fun e he => ?_⟩, qfv (fun op hop => (h.seen op hop).mono hsz) (fun op hop => ?_), qfr h.mem (fun op hop x hx => ?_), h.quiet.app fun op hop x hx hs => ?_, fun op hop => ?_⟩
 ·have := (hes e he).1
  exact ⟨this.1, this.2.1, this.2.2.1, MemAct.low_mono (Nat.le_max_right ..) this.2.2.2⟩
 ·obtain ⟨e, he, rfl⟩ := Go.Conc.mem_ofEvents hop
  exact qem (hes e he).1.2.2.2
 ·obtain ⟨e, he, rfl⟩ := Go.Conc.mem_ofEvents hop
  exact (hes e he).2 x hx
 ·obtain ⟨e, he, rfl⟩ := Go.Conc.mem_ofEvents hop
  exact ⟨(hes e he).1.1 x hx hs, fun _ => rfl⟩
 ·rcases Array.mem_append.1 hop with h' | h'
  ·exact h.gs op h'
  ·obtain ⟨e, he, rfl⟩ := Go.Conc.mem_ofEvents h'
   exact hn
theorem yx {gs : Array Goroutine} {a : Goroutine} {w : World} {sl : Option (Nat × Nat)} {t : Trace} {q : Nat → Nat} (h0 : gs[0]? = some a) (hrun : a.status = .running) (hL : Leavers P t gs q) (hP : vo SB w gs.size t)
  (hs : ∀ d, ∃ a' w' es, stepG P true a (w.at d) = .go a' w' es ∧ w.heap.size ≤ w'.heap.size ∧ ∀ e ∈ es, EvZ SB w'.heap.size e) :
  ∃ (N : Nat) (gs' : Array Goroutine) (a' : Goroutine) (d : Nat) (w' : World) (es : Array Event) (sl' : Option (Nat × Nat)) (t' : Trace) (q' : Nat → Nat),
   runNT P N (crowd gs w sl) t = (.next (crowd gs' w' sl'), t') ∧ stepG P true a (w.at d) = .go a' w' es ∧ gs'.size = gs.size ∧ gs'[0]? = some a' ∧ Leavers P t' gs' q' ∧ vo SB w' gs'.size t' ∧
   ∀ l, qb4 t l → (∀ e ∈ es, ∀ x, (MemAct.ofEvent e).touch? = some x → x.loc ≠ l) → qb4 t' l := by
 obtain ⟨N, gs', sl1, d1, sl', t', q', d, hr, hst, hz, h0', hL', hP', hfr⟩ := qn2 (P := P) _ gs a w sl t q (jy _) h0 hrun hL hP
 obtain ⟨a', w', es, hgo, hsz, hev⟩ := hs d
 have hrunT := runT_crowd_go (P := P) (sl := sl') (i := 0) h0' (show stepG P (0 == 0) a (w.at d) = _ from hgo)
 have hlt : 0 < gs'.size := (zx h0').1
 have hsz' : ((gs'.map (woken P a a' w')).setIfInBounds 0 a').size = gs'.size := by simp
 refine ⟨N + 1, (gs'.map (woken P a a' w')).setIfInBounds 0 a', a', d, w', es, sl', t' ++ MemOp.ofEvents 0 a.frame.fn a.frame.place es, q', ?_, hgo, hsz'.trans hz, by simp [hlt], ⟨fun j x hj hx => ?_, fun j hj => ?_⟩, ?_, fun l hl he => ?_⟩
 ·rw [show N + 1 = N + 1 from rfl]
  exact runNT_trans _ hr (by simp only [runNT, hst, hrunT])
 ·have hne : 0 ≠ j := by omega
  rw [xne hne, Array.getElem?_map] at hx
  obtain ⟨y, hy, rfl⟩ := Option.map_eq_some_iff.1 hx
  have hq := hL'.old j y hj hy
  rw [woken_quitsD hq, Deaf_other t' (by omega) _ (fun op hop => by obtain ⟨e, _, rfl⟩ := Go.Conc.mem_ofEvents hop; rfl)]
  exact hq
 ·rw [Deaf_other t' (g' := 0) (by simp at hj; omega) _ (fun op hop => by obtain ⟨e, _, rfl⟩ := Go.Conc.mem_ofEvents hop; rfl)]
  exact hL'.above j (by simpa using hj)
 ·rw [hsz']
  exact (hP'.at d).evs hlt hsz hev _ _
 ·refine (hfr l hl).app fun op hop x hx => ?_
  obtain ⟨e, h1, rfl⟩ := Go.Conc.mem_ofEvents hop
  exact he e h1 x hx
theorem qp3 {R : World → World → Prop} {Stop : Goroutine → World → Prop} (hR : ∀ w d, R w (w.at d)) (hs : ∀ g w, Stop g w → g.status = .running) : ∀ (n : Nat) (gs : Array Goroutine) (a : Goroutine) (w : World) (sl : Option (Nat × Nat)) (t : Trace) (q : Nat → Nat), gs[0]? = some a → Leavers P t gs q → vo SB w gs.size t →
   Goes P true R DC0 Stop n a w →
   ∃ (N : Nat) (gs' : Array Goroutine) (a' : Goroutine) (d : Nat) (sl' : Option (Nat × Nat)) (t' : Trace) (q' : Nat → Nat),
    runNT P N (crowd gs w sl) t = (.next (crowd gs' (w.at d) sl'), t') ∧ gs'.size = gs.size ∧ gs'[0]? = some a' ∧ Stop a' (w.at d) ∧ Leavers P t' gs' q' ∧ vo SB (w.at d) gs'.size t' := by
 intro n
 induction n with
 |zero => exact fun gs a w sl t q h0 hL hP hG => ⟨0, gs, a, w.drawn, sl, t, q, rfl, rfl, h0, hG w (hR w w.drawn), hL, hP⟩
 |succ n ih =>
  intro gs a w sl t q h0 hL hP hG
  rcases hG with hstop | ⟨hrun, hstep⟩
  ·exact ⟨0, gs, a, w.drawn, sl, t, q, rfl, rfl, h0, hstop w (hR w w.drawn), hL, hP⟩
  have key : ∀ d, ∃ a', stepG P true a (w.at d) = .go a' (w.at d) #[] ∧ Goes P true R DC0 Stop n a' (w.at d) := fun d => by
   have := hstep (w.at d) (hR w d)
   cases hgo : stepG P true a (w.at d) with
   |go a' w' es =>
    rw [hgo, goes_go] at this
    obtain ⟨⟨rfl, rfl⟩, hG'⟩ := this
    exact ⟨a', rfl, hG'⟩
   |_ => rw [hgo] at this; exact this.elim
  obtain ⟨N, gs1, a1, d, w1, es1, sl1, t1, q1, hr, hgo, hz, h01, hL1, hP1, _⟩ := yx (P := P) (SB := SB) (sl := sl) h0 hrun hL hP fun d => let ⟨a', h1, _⟩ := key d; ⟨a', _, _, h1, jy _, by simp⟩
  obtain ⟨a', h1, h2⟩ := key d
  rw [hgo] at h1
  cases h1
  obtain ⟨N', gs', a', d', sl', t', q', hr', hz', h0', hS, hL', hP'⟩ := ih gs1 _ (w.at d) sl1 t1 q1 h01 hL1 hP1 h2
  exact ⟨N + N', gs', a', d', sl', t', q', runNT_trans _ hr hr', hz'.trans hz, h0', hS, hL', hP'⟩
end
section
variable [Payload] {P : Program} {ty : TypeId} {Wg C n : Nat} {SB : Blocks} {jb : Nat → Blocks → Value → World → Prop} {K : Goroutine → World → Prop} {L0 : Nat} {gs : Array Goroutine} {w : World} {sl : Option (Nat × Nat)} {q : Nat → Nat} {F O : Blocks} {a : Goroutine} {t : Trace}
theorem phase (jf : ∀ i F v w w1, jb i F v w → Ext F w w1 → jb i F v w1) (hn : n < 2147483648) (h0 : gs[0]? = some a) (hL : Leavers P t gs q) (hP : vo SB w gs.size t) (hfr : ∀ x : Addr, x.block = Wg → qb4 t (.cell x))
  (hWG : WG P true (Scr P ty Wg C n jb K n) F O a w) (hwg : WgAt ty Wg w 0 0) (hpay : PayAt C n w) (hF : ∀ b, F b → b < w.heap.size ∧ b ≠ Wg ∧ b ≠ C ∧ ¬ SB b) (hO : ∀ b, O b → F b)
  (lW : Wg < w.heap.size) (lC : C < w.heap.size) (lS : ∀ b, SB b → b < w.heap.size) (hCW : C ≠ Wg) (sW : ¬ SB Wg) (sC : ¬ SB C) (kW : L0 ≤ Wg) (kC : L0 ≤ C) (kO : ∀ b, O b → L0 ≤ b) :
  ∃ N gs' a' w' sl' t' D FM q', runNT P N (crowd gs w sl) t = (.next (crowd gs' w' sl'), t') ∧ Joined P gs.size Wg C n SB jb K L0 w gs' a' w' t' D FM q' := by
 obtain ⟨rk, hWG⟩ := hWG
 have hpos : 0 < gs.size := (zx h0).1
 obtain ⟨B, qoo⟩ := hP.past
 let D : Nat → WX := fun _ => ⟨0, 0, 0, .leaf, fun _ => False, fun _ => False, .bool false⟩
 have kn : ∀ i x, touchAt t i = some x → ¬ ShP Wg SB x.loc → Knows t 0 i := fun i x hx hs => by
  rcases qoo.known i x hx (hP.mem i x hx) with h | ⟨⟨c, h1, h2⟩, _⟩
  ·exact h
  ·exact absurd ⟨c, h1, .inl h2⟩ hs
 have tr : qmq gs.size Wg C SB 0 D w t := by
  refine ⟨⟨fun i op x hi hx hs => ?_, fun k k1 kj l ⟨i, hi, _⟩ => absurd hi (Nat.not_lt_zero i), fun k k1 kj l ⟨i, hi, _⟩ => absurd hi (Nat.not_lt_zero i), fun l hs _ i x hx e => kn i x hx (e ▸ hs), fun l hs _ i x hx e _ => kn i x hx (e ▸ hs), qoo.clean, fun i op hi => ?_⟩,
   ⟨t.size, jy _, fun i g hi hg => ?_, fun i hi he => ?_⟩, fun i g hg hne hlt hc => qoo.over i g hg hne hc, fun i x hx => ?_, hP.mem, hP.seen⟩
  ·obtain ⟨c, h1, h2 | h2⟩ := hs
   ·exact hP.quiet i op x hi hx ⟨c, h1, h2⟩
   ·exact absurd h1 (hfr c h2 i x (by rw [touchAt_of hi]; exact hx))
  ·have := hP.gs op (Array.mem_of_getElem? hi); omega
  ·obtain ⟨op, ho, rfl⟩ := Option.map_eq_some_iff.1 hg
   exact hP.gs op (Array.mem_of_getElem? ho)
  ·have := lt_of_act? he; omega
  ·rcases qoo.known i x hx (hP.mem i x hx) with h | ⟨⟨c, h1, h2⟩, h3⟩
   ·exact .inl h
   ·exact .inr (.inl ⟨⟨c, h1, .inl h2⟩, h3⟩)
 have hms : MS P ty Wg C n jb K (.wg n) 0 0 rk F O a w := .wg (jy _) hWG
 have hcom : kz P ty gs.size Wg C n SB jb 0 gs w t D q 0 := ⟨rfl, fun i g hi _ hg => hL.old i g hi hg, fun i hi => absurd hi (Nat.not_lt_zero i), tr, qoo.hears, fun i hi => absurd hi (Nat.not_lt_zero i), hL.above, fun i hi => absurd hi (Nat.not_lt_zero i), fun i hi => absurd hi (Nat.not_lt_zero i), hpay, hpos⟩
 have S : Sep Wg C SB 0 D F O w := ⟨fun i hi => absurd hi (Nat.not_lt_zero i), fun i hi => absurd hi (Nat.not_lt_zero i), fun i _ hi => absurd hi (Nat.not_lt_zero i), fun b hb => let ⟨h1, h2, h3, h4⟩ := hF b hb; ⟨h1, h2, h3, h4, fun i hi => absurd hi (Nat.not_lt_zero i)⟩, fun b hb => ⟨hO b hb, fun i hi => absurd hi (Nat.not_lt_zero i)⟩, lW, lC, lS, hCW, sW, sC⟩
 have hm : Mo 0 (xd D) (.wg n) 0 0 := by
  have := Mo.opn (j := 0) (D := xd D) (tag := .wg n) trivial (fun i hi => absurd hi (Nat.not_lt_zero i)) (by simp)
  simpa [Vc, sumTo, qak] using this
 have hj : JT n (.wg n) 0 := Nat.zero_add n
 have hk : Kept Wg C L0 w 0 D O w := ⟨fun _ _ => rfl, kW, kC, fun i hi => absurd hi (Nat.not_lt_zero i), kO, rfl, rfl, rfl, id⟩
 exact que (o := gs.size) jf hn _ (crowd gs w sl) t ⟨gs, w, sl, 0, D, q, .wg n, 0, 0, rk, F, O, a, 0, 0, rfl, h0, hms, hcom, S, hwg, hm, hj, hk, rfl⟩
end
end
section
abbrev link : Go.Conc.Lib.WgLink := { add := 53, done := 55, wait := 57, relMerge := 77, disable := 78, enable := 79, inBubble := 80, associate := 81, fatal := 82, uOr := 83, uAdd := 84, raceRead := 85, uLoad := 86, uStore := 87, disassociate := 88, semrelease := 89, acquire := 92, isAssociated := 93, uCas := 94, raceWrite := 95, semacquire := 96, orU64 := 118, addU64 := 119, loadU64 := 120, storeU64 := 121, casU64 := 125, tWgP := 158, tUP := 160, tAssoc := 161, tWg := 122, tAU := 119, tU64 := 117, tUint := 165, tU32 := 120, tPU32 := 166, tPAU := 203, tPU64 := 205, tNoCopy := 114, tANoCopy := 115, tAlign64 := 116 }
theorem qs2 : Go.Conc.Lib.WgLib Tryz.prog link :=
 ⟨Tryz.func53, Tryz.func55, Tryz.func57, Tryz.func77, Tryz.func78, Tryz.func79, Tryz.func80, Tryz.func81, Tryz.func82, Tryz.func83, Tryz.func84, Tryz.func85, Tryz.func86, Tryz.func87, Tryz.func88, Tryz.func89, Tryz.func92, Tryz.func93, Tryz.func94, Tryz.func95, Tryz.func96, Tryz.func118, Tryz.func119, Tryz.func120, Tryz.func121, Tryz.func125, Tryz.underlying158, Tryz.runUnderlying158, Tryz.sizeOf158, Tryz.isAgg158, Tryz.zeroValue158, Tryz.underlying160, Tryz.runUnderlying160, Tryz.sizeOf160, Tryz.isAgg160, Tryz.zeroValue160, Tryz.underlying161, Tryz.runUnderlying161, Tryz.sizeOf161, Tryz.isAgg161, Tryz.zeroValue161, Tryz.underlying122, Tryz.runUnderlying122, Tryz.sizeOf122, Tryz.isAgg122, Tryz.zeroValue122, Tryz.underlying119, Tryz.runUnderlying119, Tryz.sizeOf119, Tryz.isAgg119, Tryz.zeroValue119, Tryz.underlying117, Tryz.runUnderlying117, Tryz.sizeOf117, Tryz.isAgg117, Tryz.zeroValue117, Tryz.underlying165, Tryz.runUnderlying165, Tryz.sizeOf165, Tryz.isAgg165, Tryz.zeroValue165, Tryz.underlying120, Tryz.runUnderlying120, Tryz.sizeOf120, Tryz.isAgg120, Tryz.zeroValue120, Tryz.underlying166, Tryz.runUnderlying166, Tryz.sizeOf166, Tryz.isAgg166, Tryz.zeroValue166, Tryz.underlying203, Tryz.runUnderlying203, Tryz.sizeOf203, Tryz.isAgg203, Tryz.zeroValue203, Tryz.underlying205, Tryz.runUnderlying205, Tryz.sizeOf205, Tryz.isAgg205, Tryz.zeroValue205, Tryz.underlying0, Tryz.runUnderlying0, Tryz.sizeOf0, Tryz.isAgg0, Tryz.zeroValue0, Tryz.underlying3, Tryz.runUnderlying3, Tryz.sizeOf3, Tryz.isAgg3, Tryz.zeroValue3, Tryz.underlying4, Tryz.runUnderlying4, Tryz.sizeOf4, Tryz.isAgg4, Tryz.zeroValue4, Tryz.underlying9, Tryz.runUnderlying9, Tryz.sizeOf9, Tryz.isAgg9, Tryz.zeroValue9, Tryz.underlying20, Tryz.runUnderlying20, Tryz.sizeOf20, Tryz.isAgg20, Tryz.zeroValue20, Tryz.underlying21, Tryz.runUnderlying21, Tryz.sizeOf21, Tryz.isAgg21, Tryz.zeroValue21, (by kernel_rfl), (by kernel_rfl)⟩
end
end Go.Proofs.YtkpekiajdlolnabGreat.Ph
namespace Go.Proofs.YtkpekiajdlolnabGreat.Sim
open Go Go.Conc
def shf (τ : Tape) (δ : Nat × Nat) (w : World) : World := { w with tape := τ, drawn := w.drawn - δ.1 + δ.2 }
def Fit (τ : Tape) (δ : Nat × Nat) (w : World) : Prop := δ.1 ≤ w.drawn ∧ ∀ i q, w.drawn ≤ i → τ (i - δ.1 + δ.2) q = w.tape i q
def qui {α : Type} (f : World → World) : Result α → Result α | .ok a w => .ok a (f w) | .halt h w => .halt h (f w)
theorem qzf (P : Program) (w : World) (τ : Tape) (δ : Nat × Nat) (a : Addr) (u : TypeId) (k : Addr) (b : Bool) : (shf τ δ w).seen P a u k b = w.seen P a u k b := rfl
theorem qof (P : Program) (w : World) (τ : Tape) (δ : Nat × Nat) (a : Addr) (b : Bool) : (shf τ δ w).farLoad P a b = w.farLoad P a b := rfl
theorem qtk {A : Type} {w : World} {τ : Tape} {δ : Nat × Nat} (fo : Except String A) (g g' : A → Except String (World × List Addr)) (h : ∀ c, ∃ h l, g c = .ok ({ w with heap := h }, l) ∧ g' c = .ok (shf τ δ { w with heap := h }, l)) :
  (∃ e, (fo >>= g) = .error e ∧ (fo >>= g') = .error e) ∨ ∃ h l, (fo >>= g) = .ok ({ w with heap := h }, l) ∧ (fo >>= g') = .ok (shf τ δ { w with heap := h }, l) := by
 cases fo with
 |error e => exact .inl ⟨e, rfl, rfl⟩
 |ok c => exact .inr (h c)
theorem qlh (P : Program) (w : World) (τ : Tape) (δ : Nat × Nat) (a : Addr) (u : TypeId) (k : Addr) (v : Value) (b : Bool) :
  (∃ e, w.viewStore P a u k v b = .error e ∧ (shf τ δ w).viewStore P a u k v b = .error e) ∨
  ∃ h l, w.viewStore P a u k v b = .ok ({ w with heap := h }, l) ∧ (shf τ δ w).viewStore P a u k v b = .ok (shf τ δ { w with heap := h }, l) := by
 unfold World.viewStore
 rw [qzf]
 generalize w.seen P a u k b = r
 generalize tight P P.depth u = t
 cases t with
 |false => exact .inl ⟨_, rfl, rfl⟩
 |true =>
  cases r with
  |error e => exact .inl ⟨_, rfl, rfl⟩
  |ok r =>
   obtain ⟨c, e, frozen, first, like, cells⟩ := r
   generalize v.bytes? = vb
   cases vb with
   |none => exact .inl ⟨_, rfl, rfl⟩
   |some bs =>
    dsimp only
    by_cases hb : some bs.length ≠ like.bytes?.map (·.length)
    ·left
     refine ⟨_, if_pos hb, ?_⟩
     exact if_pos hb
    ·rcases qtk (cells.foldlM (init := c) _) (fun c => pure ({ w with heap := w.heap.setIfInBounds a.block (.cells c e frozen) }, cells.map fun (i, _, _) => { block := a.block, off := i }))
      (fun c => pure ({ shf τ δ w with heap := w.heap.setIfInBounds a.block (.cells c e frozen) }, cells.map fun (i, _, _) => { block := a.block, off := i })) (w := w) (τ := τ) (δ := δ) (fun c => ⟨_, _, rfl, rfl⟩) with ⟨e1, h1, h2⟩ | ⟨h, l, h1, h2⟩
     ·exact .inl ⟨e1, (if_neg hb).trans h1, (if_neg hb).trans h2⟩
     ·exact .inr ⟨h, l, (if_neg hb).trans h1, (if_neg hb).trans h2⟩
theorem qm2 (P : Program) (w : World) (τ : Tape) (δ : Nat × Nat) (a : Addr) (v : Value) (b : Bool) :
  (∃ e, w.farStore P a v b = .error e ∧ (shf τ δ w).farStore P a v b = .error e) ∨
  ∃ h l, w.farStore P a v b = .ok ({ w with heap := h }, l) ∧ (shf τ δ w).farStore P a v b = .ok (shf τ δ { w with heap := h }, l) := by
 unfold World.farStore
 have hh : (shf τ δ w).heap[a.block]? = w.heap[a.block]? := rfl
 have hno : (shf τ δ w).noCell a "store: no such cell" = w.noCell a "store: no such cell" := rfl
 rw [hh, hno]
 cases ho : w.heap[a.block]? with
 |none => exact .inl ⟨_, rfl, rfl⟩
 |some o =>
  cases o with
  |view at_ u =>
   dsimp only
   rcases qlh P w τ δ at_ u a v b with ⟨e, e1, e2⟩ | ⟨h, l, e1, e2⟩
   ·exact .inl ⟨.unsupported (.unsafePointer e), by rw [e1], by rw [e2]⟩
   ·exact .inr ⟨h, l, by rw [e1], by rw [e2]⟩
  |_ => exact .inl ⟨_, rfl, rfl⟩
theorem qpj {α : Type} (P : Program) (m : Mode) (a : Addr) (v : Value) (k : Sem α) {τ : Tape} {δ : Nat × Nat} (ih : ∀ (w : World) (es : Array Event), Fit τ δ w →
  k.runT P (shf τ δ w) es = (qui (shf τ δ) (k.runT P w es).1, (k.runT P w es).2) ∧ Fit τ δ (rw0 (k.runT P w es).1)) (w : World) (es : Array Event) (hw : Fit τ δ w) :
  storeT P m a v k (shf τ δ w) es = (qui (shf τ δ) (storeT P m a v k w es).1, (storeT P m a v k w es).2) ∧ Fit τ δ (rw0 (storeT P m a v k w es).1) := by
 unfold storeT
 have hc : (shf τ δ w).cell? a = w.cell? a := rfl
 have hf : (shf τ δ w).frozen? a = w.frozen? a := rfl
 simp only [hc, hf]
 cases hq : w.cell? a with
 |some v0 =>
  dsimp only
  cases hq2 : w.frozen? a with
  |true => exact ⟨rfl, hw⟩
  |false => exact ih (w.setCell a v) _ hw
 |none =>
  dsimp only
  rcases qm2 P w τ δ a v (m == .atomic) with ⟨e, e1, e2⟩ | ⟨h, l, e1, e2⟩
  ·simp only [e1, e2]
   exact ⟨rfl, hw⟩
  ·simp only [e1, e2]
   exact ih { w with heap := h } _ hw
theorem qtg {α : Type} {τ : Tape} {δ : Nat × Nat} : ∀ (a : Ask α) (w : World), Fit τ δ w → (shf τ δ w).ask a = ((w.ask a).1, shf τ δ (w.ask a).2) ∧ Fit τ δ (w.ask a).2 := by
 intro a
 induction a with
 |done a => intro w h; exact ⟨rfl, h⟩
 |ask what range k ih =>
  intro w h
  unfold World.ask
  dsimp only
  have e : ∀ q, (shf τ δ w).tape (shf τ δ w).drawn q = w.tape w.drawn q := fun q => h.2 w.drawn q (jy _)
  split
  ·rename_i hf
   exact ih 0 w h
  ·rename_i hf
   rw [e]
   have e2 : ({ shf τ δ w with drawn := (shf τ δ w).drawn + 1 } : World) = shf τ δ { w with drawn := w.drawn + 1 } := by
    have := h.1; unfold shf; simp only [World.mk.injEq, true_and, and_true]; omega
   rw [e2]
   exact ih _ { w with drawn := w.drawn + 1 } ⟨Nat.le_succ_of_le h.1, fun i q hi => h.2 i q (Nat.le_of_lt hi)⟩
theorem qu1 {τ : Tape} {δ : Nat × Nat} (c : Sys) (w : World) (h : Fit τ δ w) : (shf τ δ w).sys c = ((w.sys c).1, shf τ δ (w.sys c).2) ∧ Fit τ δ (w.sys c).2 := by
 unfold World.sys
 have e : Kernel.perform c (shf τ δ w).os = Kernel.perform c w.os := rfl
 rw [e]
 obtain ⟨h1, h2⟩ := qtg (Kernel.perform c w.os) w h
 rw [h1]
 generalize w.ask (Kernel.perform c w.os) = r at *
 obtain ⟨⟨a, os⟩, w1⟩ := r
 cases a <;> first | exact ⟨rfl, h⟩ | exact ⟨rfl, h2⟩
theorem quq {α : Type} (P : Program) {τ : Tape} {δ : Nat × Nat} : ∀ (s : Sem α) (w : World) (es : Array Event), Fit τ δ w →
  s.runT P (shf τ δ w) es = (qui (shf τ δ) (s.runT P w es).1, (s.runT P w es).2) ∧ Fit τ δ (rw0 (s.runT P w es).1) := by
 intro s
 induction s with
 |pure a => intro w es h; exact ⟨rfl, h⟩
 |halt x => intro w es h; exact ⟨rfl, h⟩
 |load m a k ih =>
  intro w es h
  unfold Sem.runT
  have hc' : (shf τ δ w).cell? a = w.cell? a := rfl
  simp only [hc', qof]
  cases hc : w.cell? a with
  |some v => exact ih v w _ h
  |none =>
   dsimp only
   cases hf : w.farLoad P a (m == .atomic) with
   |error x => exact ⟨rfl, h⟩
   |ok r => exact ih r.1 w _ h
 |store m a v k ih => cases v <;> first | (intro w es h; exact ⟨rfl, h⟩) | exact qpj P m a _ k ih
 |new o k ih => intro w es h; exact ih _ { w with heap := w.heap.push o } es h
 |shape r k ih => intro w es h; exact ih _ w es h
 |freeze a n k ih =>
  intro w es h
  have e : (shf τ δ w).freeze a n = shf τ δ (w.freeze a n) := by unfold World.freeze; simp only [shf]; split <;> rfl
  have e1 : (w.freeze a n).drawn = w.drawn := by unfold World.freeze; split <;> rfl
  have e2 : (w.freeze a n).tape = w.tape := by unfold World.freeze; split <;> rfl
  have h' := ih (w.freeze a n) es ⟨by rw [e1]; exact h.1, fun i q hi => by rw [e2]; exact h.2 i q (by rw [e1] at hi; exact hi)⟩
  unfold Sem.runT
  rw [e]
  exact h'
 |frozen a k ih => intro w es h; exact ih _ w es h
 |getObj r k ih =>
  intro w es h
  unfold Sem.runT
  have hc : (shf τ δ w).heap[r]? = w.heap[r]? := rfl
  simp only [hc]
  cases ho : w.heap[r]? with
  |none => exact ⟨rfl, h⟩
  |some o => cases o <;> first | exact ⟨rfl, h⟩ | exact ih _ w _ h
 |setObj r o k ih =>
  intro w es h
  unfold Sem.runT
  have hc : (shf τ δ w).heap[r]? = w.heap[r]? := rfl
  simp only [hc]
  cases ho : w.heap[r]? with
  |none => exact ⟨rfl, h⟩
  |some o' => cases o' <;> first | exact ⟨rfl, h⟩ | exact ih { w with heap := w.heap.setIfInBounds r o } _ h
 |choose q k ih =>
  intro w es h
  unfold Sem.runT
  by_cases hf : q.forced = true
  ·simp only [hf, if_true]
   exact ih 0 w es h
  ·simp only [hf, Bool.false_eq_true, if_false]
   have e : (shf τ δ w).tape (shf τ δ w).drawn q = w.tape w.drawn q := h.2 w.drawn _ (jy _)
   rw [e]
   have e2 : ({ shf τ δ w with drawn := (shf τ δ w).drawn + 1 } : World) = shf τ δ { w with drawn := w.drawn + 1 } := by
    have := h.1; unfold shf; simp only [World.mk.injEq, true_and, and_true]; omega
   rw [e2]
   exact ih _ { w with drawn := w.drawn + 1 } es ⟨Nat.le_succ_of_le h.1, fun i q hi => h.2 i q (Nat.le_of_lt hi)⟩
 |sys c k ih =>
  intro w es h
  unfold Sem.runT
  obtain ⟨h1, h2⟩ := qu1 c w h
  rw [h1]
  exact ih _ _ _ h2
 |program k ih => intro w es h; exact ih P w es h
 |mark m k ih => intro w es h; exact ih w _ h
theorem shr {α : Type} {P : Program} {s : Sem α} {w : World} {es : Array Event} {r : Result α} {es1 : Array Event} (hr : s.runT P w es = (r, es1)) {τ : Tape} {δ : Nat × Nat} (h : Fit τ δ w) : s.runT P (shf τ δ w) es = (qui (shf τ δ) r, es1) ∧ Fit τ δ (rw0 r) := by
 have := quq P s w es h
 rw [hr] at this
 exact this
def ShS (f : World → GStep) (w : World) : Prop := ∀ g1 w1 es, f w = .go g1 w1 es → ∀ τ δ, Fit τ δ w → f (shf τ δ w) = .go g1 (shf τ δ w1) es ∧ Fit τ δ w1
theorem ShS.go {g : Goroutine} {es : Array Event} {w : World} : ShS (fun w => .go g w es) w := by
 intro g1 w1 es h
 cases h
 exact fun τ δ h => ⟨rfl, h⟩
theorem ShS.ended {f : World → GStep} {w : World} {o : Outcome} {w2 : World} {es : Array Event} (h : f w = .ended o w2 es) : ShS f w := fun g1 w1 es e => by rw [h] at e; cases e
section
variable {X : Cx} {Fb : FuncId → Bool} {wr : Bool} {sp : FuncId → Bool} {ρ : Rel}
theorem qjp {cs : List Frame} {fr : Frame} {w w' : World} (hw : WR X ρ w w') (hm : fr.mode = .run) (hk : fr.kind = .normal)
  {s s' : Sem Next} (hs : SS X ρ s s' (fun ρ1 n n' => NR X ρ1 n n')) : ShS (fun w => stepG.apply X.P true fr cs none s w) w := by
 have e1 : (fr.kind == CallKind.early) = false := by rw [hk]; rfl
 have raised : ∀ vs, fr.raise vs = { fr with mode := .panicking vs } := fun vs => by unfold Frame.raise; rw [hm]
 intro g1 w1 es hgo
 rcases hr : s.runT X.P w #[] with ⟨r, es0⟩
 unfold stepG.apply at hgo ⊢
 simp only [if_true] at hgo ⊢
 rw [hr] at hgo
 cases r with
 |halt h wx =>
  have hr' : s.run X.P w = .halt h wx := by rw [← Sem.runT_fst X.P s w #[], hr]
  obtain ⟨qcw, -⟩ := hs.2 w w' h wx hw hr'
  cases h with
  |panic v =>
   simp only [GStep.after] at hgo
   cases hgo
   refine fun τ δ hτ => ?_
   obtain ⟨d3, d4⟩ := shr hr hτ
   refine ⟨?_, d4⟩
   rw [d3]
   rfl
  |unsupported u =>
   cases u with
   |initOrder b => exact qcw.elim
   |_ => simp only [GStep.after] at hgo; cases hgo
  |stuck m => simp only [GStep.after] at hgo; cases hgo
  |_ => exact qcw.elim
 |ok n wx =>
  have hr' : s.run X.P w = .ok n wx := by rw [← Sem.runT_fst X.P s w #[], hr]
  obtain ⟨ρ1, n', w1', es1, h1, h2, h3, h4, h5, h6, h7⟩ := hs.1 w w' n wx #[] hw hr'
  cases h6 <;>
  ·simp only [GStep.after] at hgo
   cases hgo
   refine fun τ δ hτ => ?_
   obtain ⟨d3, d4⟩ := shr hr hτ
   refine ⟨?_, d4⟩
   rw [d3]
   rfl
theorem qj6 {cs : List Frame} {fr fr' : Frame} {w w' : World} (hw : WR X ρ w w') (hr0 : qfx ρ fr.roundOf fr'.roundOf) (hk : fr.kind = .normal) (jump : Option Code) (hj : ∀ c, jump = some c → X.C c) (m : Bool) (hne : fr.roundOf.isSome → cs ≠ []) :
  ShS (fun w => qbz X.P m fr cs jump w) w := by
 rcases hr0 with ⟨e1, e2⟩ | ⟨l, l', e1, e2, hl⟩
 ·unfold qbz
  rw [e1]
  dsimp only
  cases jump with
  |none => exact ShS.go
  |some c => cases c <;> first | exact ShS.go | exact ShS.ended rfl
 ·intro g1 w1 es hgo
  unfold qbz at hgo ⊢
  rw [e1] at hgo ⊢
  dsimp only at hgo ⊢
  rcases hr : (Instr.endRound l jump).runT X.P w #[] with ⟨r, es0⟩
  rw [hr] at hgo
  cases r with
  |halt h wx => cases hgo
  |ok v wx =>
   cases cs with
   |nil => exact absurd rfl (hne (by rw [e1]; rfl))
   |cons c cs =>
    unfold doReturn at hgo
    simp only [hk, GStep.after] at hgo
    cases hgo
    refine fun τ δ hτ => ?_
    obtain ⟨d3, d4⟩ := shr hr hτ
    refine ⟨?_, d4⟩
    rw [d3]
    simp only [qui, doReturn, hk, GStep.after]
theorem qsb (S : X.Set Fb wr sp) {cs : List Frame} {fr fr' : Frame} {w w' : World} (hf : FR X Fb wr ρ fr fr') (hw : WR X ρ w w') (hm : fr.mode = .run) (m : Bool) (hne : fr.roundOf.isSome → cs ≠ []) :
  ShS (fun w => stepG.exec X.P m true fr cs none w) w := by
 obtain ⟨fn, tmps, todo, defers, mode, kind, ro⟩ := fr
 obtain ⟨fn', qal, todo', defers', qcj, kind', ro'⟩ := fr'
 have ht : IsR X Fb wr ρ todo todo' := hf.todo
 obtain rfl : fn' = fn := hf.fn
 have hk : kind = .normal := hf.kind
 have hco : ∀ c, codeOk X.P X.P' Fb wr c = true → X.C c := fun c h => (S.c c).2 h
 unfold stepG.exec
 cases ht with
 |nil => exact qj6 hw hf.round hk none (fun c e => by cases e) m hne
 | @cons i i' l l' a b =>
  cases a with
  |inBlock id => exact ShS.go
  |inLoop c => exact ShS.go
  |inRangeFunc r => exact ShS.ended rfl
  |beginRound =>
   refine qjp (fr := ⟨fn', tmps, _, defers, mode, kind, ro⟩) (s' := do (ro'.elim (Go.stuck "beginRound: no round") Instr.beginRound : Sem Unit); Pure.pure .skip) hw hm hk ?_
   have hr0 : qfx ρ ro ro' := hf.round
   rcases hr0 with ⟨rfl, rfl⟩ | ⟨l, l', rfl, rfl, hl⟩
   ·exact SS.dies (q9.ku (q9.stuck _))
   ·exact (SS.beginRound hl).bind fun _ _ _ _ _ => SS.pure .skip
  | @endRangeFunc l l' r =>
   intro g1 w1 es hgo
   dsimp only at hgo ⊢
   rcases hr : (Instr.endLoop l).runT X.P w #[] with ⟨r0, es0⟩
   rw [hr] at hgo
   cases r0 with
   |halt h wx =>
    cases h with
    |panic v =>
     cases hgo
     refine fun τ δ hτ => ?_
     obtain ⟨d3, d4⟩ := shr hr hτ
     refine ⟨?_, d4⟩
     rw [d3]
     rfl
    |_ => cases hgo
   |ok j wx =>
    cases hgo
    refine fun τ δ hτ => ?_
    obtain ⟨d3, d4⟩ := shr hr hτ
    refine ⟨?_, d4⟩
    rw [d3]
    rfl
  | @inRegion ops td c =>
   cases td with
   |nil => exact ShS.go
   |cons i td =>
    dsimp only
    by_cases hwant : ((ops[i]?).map (Region.wanted · (yielded ops tmps))).getD false = true
    ·simp only [if_pos hwant]
     cases ho : ops[i]? with
     |none => rw [ho] at hwant; cases hwant
     |some o =>
      have hok := qec c ho
      have nd : ∀ c, o.op ≠ .defer c := fun c e => by
       unfold qa0 at hok
       rw [e] at hok
       simp at hok
      have op1 : (⟨fn', tmps, .inRegion ops (i :: td) :: l, defers, mode, kind, ro⟩ : Frame).oper? = some o := ho
      have e : (fun w => stepG.oper X.P true (⟨fn', tmps, .inRegion ops (i :: td) :: l, defers, mode, kind, ro⟩ : Frame) cs none w) =
        fun w => stepG.apply X.P true (⟨fn', tmps, .inRegion ops (i :: td) :: l, defers, mode, kind, ro⟩ : Frame) cs none (execOp (Frame.eval (⟨fn', tmps, .inRegion ops (i :: td) :: l, defers, mode, kind, ro⟩ : Frame)) o) w := by
       funext w
       unfold stepG.oper
       rw [op1]
       dsimp only
       split
       ·rename_i e; exact absurd e (nd _)
       ·rfl
      rw [e]
      exact qjp hw hm hk (SS.execOp S.ok wr S.wrs o hok _ _ (hf.eval S))
    ·simp only [if_neg hwant]
     exact ShS.go
  | @code c hc =>
   cases c with
   |skip => exact ShS.go
   |ret => exact qj6 (fr := ⟨fn', tmps, _, defers, mode, kind, ro⟩) hw hf.round hk (some .ret) (fun c e => by cases e; exact hco _ rfl) m hne
   |seq x y => exact ShS.go
   |cond x y z =>
    dsimp only
    generalize Frame.eval _ x = v
    cases v <;> first | exact ShS.go | exact ShS.ended rfl
   |block id c => exact ShS.go
   |loop c => exact ShS.go
   |exit id =>
    dsimp only
    cases exitTo id l with
    |none => exact qj6 (fr := ⟨fn', tmps, _, defers, mode, kind, ro⟩) hw hf.round hk (some (.exit id)) (fun c e => by cases e; exact hco _ rfl) m hne
    |some k => exact ShS.go
   |region id ops draw =>
    cases draw with
    |false => exact ShS.go
    |true =>
     intro g1 w1 es hgo
     dsimp only at hgo ⊢
     simp only [Bool.not_true, Bool.false_eq_true, if_false] at hgo ⊢
     rcases hr : (choose (.order fn' id)).runT X.P w #[] with ⟨r0, es0⟩
     have hr' : (choose (.order fn' id)).run X.P w = r0 := by rw [← Sem.runT_fst X.P _ w #[], hr]
     rw [hr'] at hgo
     cases r0 with
     |halt h wx => cases hgo
     |ok t wx =>
      cases hgo
      refine fun τ δ hτ => ?_
      obtain ⟨d3, d4⟩ := shr hr hτ
      refine ⟨?_, d4⟩
      have : (choose (.order fn' id)).run X.P (shf τ δ w) = .ok t (shf τ δ w1) := by rw [← Sem.runT_fst X.P _ _ #[], d3]; rfl
      rw [this]
   |rangeFunc f params assign body =>
    simp only [codeOk, Bool.and_eq_true] at hc
    obtain ⟨hc1, hc2, hc3⟩ := hc
    have hG : X.G fn' := hf.same
    intro g1 w1 es hgo
    dsimp only at hgo ⊢
    rcases hr : (Instr.enterLoop fn' tmps params assign body ro).runT X.P w #[] with ⟨r0, es0⟩
    have hen := SS.enterLoop hG hf.tmps params (hco _ hc2) (hco _ hc3) hf.round
    rw [hr] at hgo
    cases r0 with
    |halt h wx => cases hgo
    |ok p wx =>
     obtain ⟨l1, mark⟩ := p
     obtain ⟨ρ1, p', w1', es1, h1, h2, h3, h4, h5, ⟨h6, h6'⟩, h7⟩ := qci hen hw hr
     obtain ⟨l1', mark'⟩ := p'
     dsimp only at h6 h6' hgo
     have hf1 := hf.mono h3.le
     have hf2 : FR X Fb wr ρ1 ⟨fn', tmps, .inRangeFunc l1 :: l, mark ++ defers, mode, kind, ro⟩ ⟨fn', qal, .inRangeFunc l1' :: l', mark' ++ defers', qcj, kind', ro'⟩ :=
      ⟨hf1.fn, hf1.same, hf1.tmps, .cons (.inRangeFunc h6) (b.mono h3.le), h6'.append hf1.defers, hf1.mode, hf1.run, hf1.kind, hf1.kind', hf1.round⟩
     have ap := qjp (cs := cs) (fr := ⟨fn', tmps, .inRangeFunc l1 :: l, mark ++ defers, mode, kind, ro⟩) h2 hm hk (SS.iterate S.ok (fun _ => rfl) (fun _ => rfl) ((hf2.eval S).1 f hc1) h6)
     obtain ⟨es2, k1, k2⟩ := qfj hgo
     refine fun τ δ hτ => ?_
     obtain ⟨d3, d4⟩ := shr hr hτ
     obtain ⟨q3, q4⟩ := ap g1 w1 es2 k1 τ δ d4
     refine ⟨?_, q4⟩
     rw [d3]
     dsimp only [qui]
     have k3 : es = seen X.P fn' es0 ++ es2 := by cases k2; rfl
     rw [k3]
     exact congrArg (GStep.after _) q3
   |_ => simp [codeOk] at hc
theorem qmk (S : X.Set Fb wr sp) {cs : List Frame} {fr fr' : Frame} {w w' : World} (hf : FR X Fb wr ρ fr fr') (hw : WR X ρ w w') (hm : fr.mode = .returning) (m : Bool) (hne : fr.defers ≠ [] ∨ cs ≠ []) :
  ShS (fun w => unwind X.P m fr cs none w) w := by
 obtain ⟨fn, tmps, todo, defers, mode, kind, ro⟩ := fr
 obtain ⟨fn', qal, todo', defers', qcj, kind', ro'⟩ := fr'
 obtain rfl : fn' = fn := hf.fn
 obtain rfl : mode = .returning := hm
 obtain rfl : kind = .normal := hf.kind
 have hd : DsR ρ defers defers' := hf.defers
 intro g1 w1 es hgo
 cases hd with
 | @cons r r' l l' a b =>
  unfold unwind at hgo ⊢
  dsimp only at hgo ⊢
  rcases hr : (Instr.takeDeferred r).runT X.P w #[] with ⟨r0, es0⟩
  rw [hr] at hgo
  cases r0 with
  |halt h wx => cases hgo
  |ok v wx =>
   cases hgo
   refine fun τ δ hτ => ?_
   obtain ⟨d3, d4⟩ := shr hr hτ
   refine ⟨?_, d4⟩
   rw [d3]
   rfl
 |nil =>
  have hne : cs ≠ [] := hne.resolve_left (fun h => h rfl)
  obtain ⟨f, q1, q2⟩ := hf.same
  have q1 : X.P.funcs[fn']? = some f := q1
  unfold unwind at hgo ⊢
  dsimp only at hgo ⊢
  rw [q1] at hgo ⊢
  dsimp only at hgo ⊢
  rcases hr : (results f tmps).runT X.P w #[] with ⟨r0, es0⟩
  rw [hr] at hgo
  cases r0 with
  |halt h wx => cases h <;> cases hgo
  |ok v wx =>
   cases cs with
   |nil => exact absurd rfl hne
   |cons c cs =>
    cases hgo
    refine fun τ δ hτ => ?_
    obtain ⟨d3, d4⟩ := shr hr hτ
    refine ⟨?_, d4⟩
    rw [d3]
    rfl
theorem q2x (S : X.Set Fb wr sp) {cs : List Frame} {fr fr' : Frame} {w w' : World} (hf : FR X Fb wr ρ fr fr') (hw : WR X ρ w w') (m : Bool) (hne : cs ≠ []) :
  ShS (fun w => stepG X.P m (G fr cs) w) w := by
 rcases hf.run with hm | hm
 ·have e : (fun w => stepG X.P m (G fr cs) w) = fun w => stepG.exec X.P m true fr cs none w := funext fun w => vv _ _ _ _ _ hm
  rw [e]
  exact qsb S hf hw hm m (fun _ => hne)
 ·have e : (fun w => stepG X.P m (G fr cs) w) = fun w => unwind X.P m fr cs none w := funext fun w => zm _ _ _ _ _ hm
  rw [e]
  exact qmk S hf hw hm m (.inr hne)
end
def vw (f : List Frame → GStep) : Prop := (∃ jv up1 w1 es, ∀ base, f base = .go (G jv (up1 ++ base)) w1 es) ∨ ∀ base g1 w1 es, f base ≠ .go g1 w1 es
theorem vw.go {f : List Frame → GStep} (fr : Frame) (up : List Frame) (w : World) (es : Array Event) (h : ∀ base, f base = .go (G fr (up ++ base)) w es) : vw f := .inl ⟨fr, up, w, es, h⟩
theorem vw.ended {f : List Frame → GStep} (h : ∀ base, ∃ o w es, f base = .ended o w es) : vw f := .inr fun base g1 w1 es e => by
 obtain ⟨o, w, es', h⟩ := h base
 rw [h] at e; cases e
theorem vw.after {f : List Frame → GStep} {es0 : Array Event} (h : vw f) : vw (fun base => GStep.after es0 (f base)) := by
 rcases h with ⟨jv, up1, w1, es, h⟩ | h
 ·exact .inl ⟨jv, up1, w1, es0 ++ es, fun base => by show GStep.after es0 (f base) = _; rw [h base]; rfl⟩
 ·refine .inr fun base g1 w1 es e => ?_
  obtain ⟨es2, k1, _⟩ := qfj e
  exact h base g1 w1 es2 k1
section
variable {X : Cx} {Fb : FuncId → Bool} {wr : Bool} {sp : FuncId → Bool} {ρ : Rel}
theorem qdu {up : List Frame} {fr : Frame} {w w' : World} (hw : WR X ρ w w') (hm : fr.mode = .run) (hk : fr.kind = .normal)
  {s s' : Sem Next} (hs : SS X ρ s s' (fun ρ1 n n' => NR X ρ1 n n')) : vw (fun base => stepG.apply X.P true fr (up ++ base) none s w) := by
 have e1 : (fr.kind == CallKind.early) = false := by rw [hk]; rfl
 rcases hr : s.runT X.P w #[] with ⟨r, es0⟩
 unfold stepG.apply
 simp only [if_true, hr, e1, Bool.false_eq_true, if_false]
 cases r with
 |halt h wx =>
  have hr' : s.run X.P w = .halt h wx := by rw [← Sem.runT_fst X.P s w #[], hr]
  obtain ⟨qcw, -⟩ := hs.2 w w' h wx hw hr'
  cases h with
  |panic v => exact vw.after (vw.go (fr.raise [{ v, recovered := false }]) up wx #[] fun _ => rfl)
  |unsupported u =>
   cases u with
   |initOrder b => exact qcw.elim
   |_ => exact vw.after (vw.ended fun _ => ⟨_, _, _, rfl⟩)
  |stuck m => exact vw.after (vw.ended fun _ => ⟨_, _, _, rfl⟩)
  |_ => exact qcw.elim
 |ok n wx =>
  have hr' : s.run X.P w = .ok n wx := by rw [← Sem.runT_fst X.P s w #[], hr]
  obtain ⟨ρ1, n', w1', es1, h1, h2, h3, h4, h5, h6, h7⟩ := hs.1 w w' n wx #[] hw hr'
  cases h6 with
  |value h => exact vw.after (vw.go (fr.finish _) up wx #[] fun _ => rfl)
  |skip => exact vw.after (vw.go (fr.finish undef) up wx #[] fun _ => rfl)
  |enter _ _ => exact vw.after (vw.go _ (fr :: up) wx #[] fun _ => rfl)
  |round _ _ _ _ _ => exact vw.after (vw.go _ (fr :: up) wx #[] fun _ => rfl)
theorem qg6 {up : List Frame} {fr : Frame} {w : World} (hk : fr.kind = .normal) (jump : Option Code) (m : Bool) (hne : fr.roundOf.isSome → up ≠ []) :
  vw (fun base => qbz X.P m fr (up ++ base) jump w) := by
 obtain ⟨fn, tmps, todo, defers, mode, kind, ro⟩ := fr
 obtain rfl : kind = .normal := hk
 unfold qbz
 cases ro with
 |none =>
  dsimp only
  cases jump with
  |none => exact vw.go ⟨fn, tmps, todo, defers, .returning, .normal, none⟩ up w #[] fun _ => rfl
  |some c => cases c <;> first | exact vw.go ⟨fn, tmps, todo, defers, .returning, .normal, none⟩ up w #[] (fun _ => rfl) | exact vw.ended fun _ => ⟨_, _, _, rfl⟩
 |some l =>
  dsimp only
  rcases hr : (Instr.endRound l jump).runT X.P w #[] with ⟨r, es0⟩
  cases r with
  |halt h wx => exact vw.after (vw.ended fun _ => ⟨_, _, _, rfl⟩)
  |ok v wx =>
   cases up with
   |nil => exact absurd rfl (hne rfl)
   |cons c up => exact vw.after (vw.go (c.finish v) up wx #[] fun _ => rfl)
theorem qsa (S : X.Set Fb wr sp) {up : List Frame} {fr fr' : Frame} {w w' : World} (hf : FR X Fb wr ρ fr fr') (hw : WR X ρ w w') (hm : fr.mode = .run) (m : Bool) (hne : fr.roundOf.isSome → up ≠ []) :
  vw (fun base => stepG.exec X.P m true fr (up ++ base) none w) := by
 obtain ⟨fn, tmps, todo, defers, mode, kind, ro⟩ := fr
 obtain ⟨fn', qal, todo', defers', qcj, kind', ro'⟩ := fr'
 have ht : IsR X Fb wr ρ todo todo' := hf.todo
 obtain rfl : fn' = fn := hf.fn
 have hk : kind = .normal := hf.kind
 have hco : ∀ c, codeOk X.P X.P' Fb wr c = true → X.C c := fun c h => (S.c c).2 h
 unfold stepG.exec
 cases ht with
 |nil => exact qg6 hk none m hne
 | @cons i i' l l' a b =>
  cases a with
  |inBlock id => exact vw.go _ up w #[] fun _ => rfl
  |inLoop c => exact vw.go _ up w #[] fun _ => rfl
  |inRangeFunc r => exact vw.ended fun _ => ⟨_, _, _, rfl⟩
  |beginRound =>
   refine qdu (fr := ⟨fn', tmps, _, defers, mode, kind, ro⟩) (s' := do (ro'.elim (Go.stuck "beginRound: no round") Instr.beginRound : Sem Unit); Pure.pure .skip) hw hm hk ?_
   have hr0 : qfx ρ ro ro' := hf.round
   rcases hr0 with ⟨rfl, rfl⟩ | ⟨l, l', rfl, rfl, hl⟩
   ·exact SS.dies (q9.ku (q9.stuck _))
   ·exact (SS.beginRound hl).bind fun _ _ _ _ _ => SS.pure .skip
  | @endRangeFunc l l' r =>
   dsimp only
   rcases hr : (Instr.endLoop l).runT X.P w #[] with ⟨r0, es0⟩
   cases r0 with
   |halt h wx =>
    cases h with
    |panic v => exact vw.after (vw.go _ up wx #[] fun _ => rfl)
    |_ => exact vw.after (vw.ended fun _ => ⟨_, _, _, rfl⟩)
   |ok j wx => exact vw.after (vw.go _ up wx #[] fun _ => rfl)
  | @inRegion ops td c =>
   cases td with
   |nil => exact vw.go _ up w #[] fun _ => rfl
   |cons i td =>
    dsimp only
    by_cases hwant : ((ops[i]?).map (Region.wanted · (yielded ops tmps))).getD false = true
    ·simp only [if_pos hwant]
     cases ho : ops[i]? with
     |none => rw [ho] at hwant; cases hwant
     |some o =>
      have hok := qec c ho
      have nd : ∀ c, o.op ≠ .defer c := fun c e => by
       unfold qa0 at hok
       rw [e] at hok
       simp at hok
      have op1 : (⟨fn', tmps, .inRegion ops (i :: td) :: l, defers, mode, kind, ro⟩ : Frame).oper? = some o := ho
      have e : (fun base => stepG.oper X.P true (⟨fn', tmps, .inRegion ops (i :: td) :: l, defers, mode, kind, ro⟩ : Frame) (up ++ base) none w) =
        fun base => stepG.apply X.P true (⟨fn', tmps, .inRegion ops (i :: td) :: l, defers, mode, kind, ro⟩ : Frame) (up ++ base) none (execOp (Frame.eval (⟨fn', tmps, .inRegion ops (i :: td) :: l, defers, mode, kind, ro⟩ : Frame)) o) w := by
       funext base
       unfold stepG.oper
       rw [op1]
       dsimp only
       split
       ·rename_i e; exact absurd e (nd _)
       ·rfl
      rw [e]
      exact qdu hw hm hk (SS.execOp S.ok wr S.wrs o hok _ _ (hf.eval S))
    ·simp only [if_neg hwant]
     exact vw.go _ up w #[] fun _ => rfl
  | @code c hc =>
   cases c with
   |skip => exact vw.go _ up w #[] fun _ => rfl
   |ret => exact qg6 (fr := ⟨fn', tmps, _, defers, mode, kind, ro⟩) hk (some .ret) m hne
   |seq x y => exact vw.go _ up w #[] fun _ => rfl
   |cond x y z =>
    dsimp only
    generalize Frame.eval _ x = v
    cases v <;> first | exact vw.go _ up w #[] (fun _ => rfl) | exact vw.ended fun _ => ⟨_, _, _, rfl⟩
   |block id c => exact vw.go _ up w #[] fun _ => rfl
   |loop c => exact vw.go _ up w #[] fun _ => rfl
   |exit id =>
    dsimp only
    cases exitTo id l with
    |none => exact qg6 (fr := ⟨fn', tmps, _, defers, mode, kind, ro⟩) hk (some (.exit id)) m hne
    |some k => exact vw.go _ up w #[] fun _ => rfl
   |region id ops draw =>
    cases draw with
    |false => exact vw.go _ up w #[] fun _ => rfl
    |true =>
     dsimp only
     simp only [Bool.not_true, Bool.false_eq_true, if_false]
     rcases hr : (choose (.order fn' id)).run X.P w with ⟨t, wx⟩ | ⟨h, wx⟩
     ·exact vw.go _ up wx #[] fun _ => rfl
     ·exact vw.ended fun _ => ⟨_, _, _, rfl⟩
   |rangeFunc f params assign body =>
    simp only [codeOk, Bool.and_eq_true] at hc
    obtain ⟨hc1, hc2, hc3⟩ := hc
    have hG : X.G fn' := hf.same
    dsimp only
    rcases hr : (Instr.enterLoop fn' tmps params assign body ro).runT X.P w #[] with ⟨r0, es0⟩
    have hen := SS.enterLoop hG hf.tmps params (hco _ hc2) (hco _ hc3) hf.round
    cases r0 with
    |halt h wx => exact vw.after (vw.ended fun _ => ⟨_, _, _, rfl⟩)
    |ok p wx =>
     obtain ⟨l1, mark⟩ := p
     obtain ⟨ρ1, p', w1', es1, h1, h2, h3, h4, h5, ⟨h6, h6'⟩, h7⟩ := qci hen hw hr
     obtain ⟨l1', mark'⟩ := p'
     dsimp only at h6 h6'
     have hf1 := hf.mono h3.le
     have hf2 : FR X Fb wr ρ1 ⟨fn', tmps, .inRangeFunc l1 :: l, mark ++ defers, mode, kind, ro⟩ ⟨fn', qal, .inRangeFunc l1' :: l', mark' ++ defers', qcj, kind', ro'⟩ :=
      ⟨hf1.fn, hf1.same, hf1.tmps, .cons (.inRangeFunc h6) (b.mono h3.le), h6'.append hf1.defers, hf1.mode, hf1.run, hf1.kind, hf1.kind', hf1.round⟩
     exact vw.after (qdu (up := up) (fr := ⟨fn', tmps, .inRangeFunc l1 :: l, mark ++ defers, mode, kind, ro⟩) h2 hm hk (SS.iterate S.ok (fun _ => rfl) (fun _ => rfl) ((hf2.eval S).1 f hc1) h6))
   |_ => simp [codeOk] at hc
theorem qh6 (S : X.Set Fb wr sp) {up : List Frame} {fr fr' : Frame} {w : World} (hf : FR X Fb wr ρ fr fr') (hm : fr.mode = .returning) (m : Bool) (hne : fr.defers ≠ [] ∨ up ≠ []) :
  vw (fun base => unwind X.P m fr (up ++ base) none w) := by
 obtain ⟨fn, tmps, todo, defers, mode, kind, ro⟩ := fr
 obtain ⟨fn', qal, todo', defers', qcj, kind', ro'⟩ := fr'
 obtain rfl : fn' = fn := hf.fn
 obtain rfl : mode = .returning := hm
 obtain rfl : kind = .normal := hf.kind
 have hd : DsR ρ defers defers' := hf.defers
 cases hd with
 | @cons r r' l l' a b =>
  unfold unwind
  dsimp only
  rcases hr : (Instr.takeDeferred r).runT X.P w #[] with ⟨r0, es0⟩
  cases r0 with
  |halt h wx => exact vw.after (vw.ended fun _ => ⟨_, _, _, rfl⟩)
  |ok v wx => exact vw.after (vw.go _ up wx #[] fun _ => rfl)
 |nil =>
  have hne : up ≠ [] := hne.resolve_left (fun h => h rfl)
  obtain ⟨f, q1, q2⟩ := hf.same
  have q1 : X.P.funcs[fn']? = some f := q1
  unfold unwind
  dsimp only
  rw [q1]
  dsimp only
  rcases hr : (results f tmps).runT X.P w #[] with ⟨r0, es0⟩
  cases r0 with
  |halt h wx => cases h <;> exact vw.after (vw.ended fun _ => ⟨_, _, _, rfl⟩)
  |ok v wx =>
   cases up with
   |nil => exact absurd rfl hne
   |cons c up => exact vw.after (vw.go (c.finish v) up wx #[] fun _ => rfl)
theorem qsx (S : X.Set Fb wr sp) {up : List Frame} {fr fr' : Frame} {w w' : World} (hf : FR X Fb wr ρ fr fr') (hw : WR X ρ w w') (m : Bool) (hB : Bot (fr :: up)) (hgo : fr.mode = .run ∨ fr.defers ≠ [] ∨ up ≠ []) :
  vw (fun base => stepG X.P m (G fr (up ++ base)) w) := by
 rcases hf.run with hm | hm
 ·have e : (fun base => stepG X.P m (G fr (up ++ base)) w) = fun base => stepG.exec X.P m true fr (up ++ base) none w := funext fun base => vv _ _ _ _ _ hm
  rw [e]
  refine qsa S hf hw hm m fun h hu => ?_
  subst hu
  have := hB fr (by simp)
  rw [this] at h; cases h
 ·have e : (fun base => stepG X.P m (G fr (up ++ base)) w) = fun base => unwind X.P m fr (up ++ base) none w := funext fun base => zm _ _ _ _ _ hm
  rw [e]
  exact qh6 S hf hm m (hgo.resolve_left (by rw [hm]; intro h; cases h))
end
end Go.Proofs.YtkpekiajdlolnabGreat.Sim
namespace Go.Proofs.YtkpekiajdlolnabGreat.Ph
open Go Go.Conc Go.ConcN Sim
structure Same (w wc : World) : Prop where
 heap : wc.heap = w.heap
 os : wc.os = w.os
 output : wc.output = w.output
theorem Same.refl (w : World) : Same w w := ⟨rfl, rfl, rfl⟩
section
variable {X : Cx} {Fb : FuncId → Bool} {SB : Blocks} {Q : Frame → List Frame → World → Prop}
theorem qic (hPP : X.P' = X.P) (S : X.Set Fb true (fun _ => false)) (hQ : ∀ fr cs w, Q fr cs w → ∀ ch, fr.mode ≠ .panicking ch) : ∀ {fr : Frame} {cs : List Frame} {w : World}, qaw X.P Q fr cs w →
  ∀ {ρ : Rel} {up base : List Frame} {gs : Array Goroutine} {wc : World} {sl : Option (Nat × Nat)} {t : Trace} {q : Nat → Nat}, cs = up ++ [c0] → base ≠ [] → FR X Fb true ρ fr fr → FsR X Fb true ρ up up → WN X ρ w wc → Same w wc → NB w → Bot (fr :: up) →
   gs[0]? = some (G fr (up ++ base)) → Leavers X.P t gs q → vo SB wc gs.size t → qbt SB (rng ρ) (own X ρ) wc →
   ∃ (N : Nat) (gs' : Array Goroutine) (fr2 : Frame) (up2 : List Frame) (w2 wc2 : World) (sl' : Option (Nat × Nat)) (t' : Trace) (q' : Nat → Nat) (ρ2 : Rel),
    runNT X.P N (crowd gs wc sl) t = (.next (crowd gs' wc2 sl'), t') ∧ Q fr2 (up2 ++ [c0]) w2 ∧ gs'.size = gs.size ∧ gs'[0]? = some (G fr2 (up2 ++ base)) ∧ Same w2 wc2 ∧ FR X Fb true ρ2 fr2 fr2 ∧ FsR X Fb true ρ2 up2 up2 ∧ WN X ρ2 w2 wc2 ∧ ρ.le ρ2 ∧ NB w2 ∧
     Leavers X.P t' gs' q' ∧ vo SB wc2 gs'.size t' ∧ qbt SB (rng ρ2) (own X ρ2) wc2 := by
 intro fr cs w h
 induction h with
 | @done fr cs w hq =>
  rintro ρ up base gs wc sl t q rfl _ hf hu hw hs hn hB h0 hL hP hF
  exact ⟨0, gs, fr, up, w, wc, sl, t, q, ρ, rfl, hq, rfl, h0, hs, hf, hu, hw, ρ.le_refl, hn, hL, hP, hF⟩
 | @step fr cs w nf nc nw ne hstep hm ih =>
  rintro ρ up base gs wc sl t q rfl hbase hf hu hw hs hn hB h0 hL hP hF
  have key : ∀ d, ∃ jv up1 w1 ρ1 es, stepG X.P true (G fr (up ++ base)) (wc.at d) = .go (G jv (up1 ++ base)) (shf wc.tape (w.drawn, d) w1) es ∧
    (∃ τ, (Agree w τ) ∧ jv = nf τ ∧ up1 ++ [c0] = nc τ ∧ w1 = nw τ) ∧ FR X Fb true ρ1 jv jv ∧ FsR X Fb true ρ1 up1 up1 ∧ WR X ρ1 w1 (shf wc.tape (w.drawn, d) w1) ∧ ρ.le ρ1 ∧ NB w1 ∧ Bot (jv :: up1) ∧
    xh (rng ρ) (own X ρ) (wc.at d) (rng ρ1) (own X ρ1) (shf wc.tape (w.drawn, d) w1) es := fun d => by
   let τ : Tape := fun i q => if i < w.drawn then w.tape i q else wc.tape (i - w.drawn + d) q
   have ha : Agree w τ := fun i q hi => if_pos hi
   have hfit : Fit wc.tape (w.drawn, d) (re w τ) := ⟨jy _, fun i q hi => by
    have hi' : ¬ i < w.drawn := Nat.not_lt.2 hi
    exact (if_neg hi').symm⟩
   have esh : shf wc.tape (w.drawn, d) (re w τ) = wc.at d := by
    have h1 := hs.heap; have h2 := hs.os; have h3 := hs.output
    obtain ⟨hp, tp, dr, os, out⟩ := wc
    simp only at h1 h2 h3
    subst h1; subst h2; subst h3
    simp [shf, re, World.at]
   have hw' : WR X ρ (re w τ) (wc.at d) := by
    obtain ⟨τ0, _, k⟩ := hw
    refine ⟨k.fn, k.inj, k.heap, fun i q => ?_, k.sh⟩
    have h1 : ¬ w.drawn + i < w.drawn := by omega
    have h2 : w.drawn + i - w.drawn + d = d + i := by omega
    have h3 : τ (w.drawn + i) q = wc.tape (w.drawn + i - w.drawn + d) q := if_neg h1
    rw [h2] at h3
    exact h3
   have hst : stepG X.P true (G fr (up ++ [c0])) (re w τ) = .go (G (nf τ) (nc τ)) (nw τ) (ne τ) := hstep τ ha
   by_cases hgo : fr.mode = .run ∨ fr.defers ≠ [] ∨ up ≠ []
   ·rcases qsx S hf hw' true hB hgo with ⟨jv, up1, w1, es, hba⟩ | hba
    ·have e1 : stepG X.P true (G fr (up ++ [c0])) (re w τ) = _ := hba [c0]
     rw [hst] at e1
     have e2 : stepG X.P true (G fr (up ++ base)) (re w τ) = _ := hba base
     have hne : up ++ base ≠ [] := by simp [hbase]
     obtain ⟨e3, q9l⟩ := q2x S (cs := up ++ base) hf hw' true hne _ _ _ e2 wc.tape (w.drawn, d) hfit
     rw [esh] at e3
     have e3 : stepG X.P true (G fr (up ++ base)) (wc.at d) = _ := e3
     have out := qhg S (base := base) (base' := base) hf hu hw' hn hB hgo true true
     rw [hPP, e3, e2] at out
     generalize hg : GStep.go (G jv (up1 ++ base)) w1 es = s at out
     cases out with
     | @nice f1 f1' u1 u1' ρ1 x1 x1' es1 q47 e h1 h2 h3 h4 h5 h6 h7 h8 =>
      have hgg : jv = f1 ∧ up1 ++ base = u1 ++ base ∧ w1 = x1 := by
       injection hg with a b c
       injection a with a1 a2
       exact ⟨a1, a2, b⟩
      obtain ⟨rfl, hu1, rfl⟩ := hgg
      obtain rfl := List.append_cancel_right hu1
      have hee : jv = f1' ∧ up1 ++ base = u1' ++ base ∧ shf wc.tape (w.drawn, d) w1 = x1' ∧ es = q47 := by
       injection e with a b c
       injection a with a1 a2
       exact ⟨a1, a2, b, c⟩
      obtain ⟨rfl, hu2, rfl, rfl⟩ := hee
      obtain rfl := List.append_cancel_right hu2
      have e1' : nf τ = jv ∧ nc τ = up1 ++ [c0] ∧ nw τ = w1 := by
       injection e1 with a b c
       injection a with a1 a2
       exact ⟨a1, a2, b⟩
      exact ⟨jv, up1, w1, ρ1, es, e3, ⟨τ, ha, e1'.1.symm, e1'.2.1.symm, e1'.2.2.symm⟩, h1, h2, h3, h4.le, h7, h8, qcs hw' h4 h3 h6⟩
     |special k1 k2 => cases k2
     | @panic f1 u1 ch x1 es1 h1 h2 =>
      exfalso
      have hgg : jv = { f1 with mode := .panicking ch } ∧ up1 ++ base = u1 ++ base ∧ w1 = x1 := by
       injection hg with a b c
       injection a with a1 a2
       exact ⟨a1, a2, b⟩
      obtain ⟨rfl, hu1, rfl⟩ := hgg
      obtain rfl := List.append_cancel_right hu1
      have e1' : nf τ = { f1 with mode := .panicking ch } ∧ nc τ = up1 ++ [c0] ∧ nw τ = w1 := by
       injection e1 with a b c
       injection a with a1 a2
       exact ⟨a1, a2, b⟩
      have hmu := hm τ ha
      rw [e1'.1, e1'.2.1, e1'.2.2] at hmu
      exact kg hQ hmu trivial ⟨_, rfl⟩ (.inl ⟨_, rfl, h1, h2⟩)
     |ended => cases hg
    ·exact absurd hst (hba _ _ _ _)
   ·exfalso
    have hup : up = [] := Classical.byContradiction fun h => hgo (.inr (.inr h))
    subst hup
    obtain ⟨h1, h2, h3⟩ := qeg S hf hw' hn (fun h => hgo (h.imp id .inl)) hst
    exact kg hQ (hm τ ha) h1 h2 h3
  have hpos : 0 < gs.size := (zx h0).1
  obtain ⟨N, gs1, a1, d, wc1, es, sl1, t1, q1, hr, hgo, hz, h01, hL1, hP1, _⟩ := yx (P := X.P) (SB := SB) (sl := sl) h0 rfl hL hP fun d => by
   obtain ⟨jv, up1, w1, ρ1, es, e, _, _, _, _, _, _, _, ok⟩ := key d
   have hFd : qbt SB (rng ρ) (own X ρ) (wc.at d) := ⟨hF.apart, hF.low, hF.own, hF.foot⟩
   have hF' := hFd.step ok
   exact ⟨_, _, es, e, ok.size, fun x hx => ⟨qm1 (ok.ev x hx) hF'.apart hF'.foot, fun y hy => (qm0 (ok.ev x hx) hy).1⟩⟩
  obtain ⟨jv, up1, w1, ρ1, es', e, ⟨τ, ha, rfl, hnc, rfl⟩, h1, h2, h3, hle, h7, h8, ok⟩ := key d
  rw [e] at hgo
  have hgg : G (nf τ) (up1 ++ base) = a1 ∧ shf wc.tape (w.drawn, d) (nw τ) = wc1 ∧ es' = es := by
   injection hgo with a b c
   exact ⟨a, b, c⟩
  obtain ⟨rfl, rfl, rfl⟩ := hgg
  have hFd : qbt SB (rng ρ) (own X ρ) (wc.at d) := ⟨hF.apart, hF.low, hF.own, hF.foot⟩
  obtain ⟨N', gs', fr2, up2, w2, wc2, sl', t', q', ρ2, hr', hq, hz', h0', hs', g1, g2, g3, g4, g5, hL', hP', hF'⟩ := ih τ ha hnc.symm hbase h1 h2 (WN.of h3) ⟨rfl, rfl, rfl⟩ h7 h8 h01 hL1 hP1 (hFd.step ok)
  exact ⟨N + N', gs', fr2, up2, w2, wc2, sl', t', q', ρ2, runNT_trans _ hr hr', hq, hz'.trans hz, h0', hs', g1, g2, g3, Rel.le_trans hle g4, g5, hL', hP', hF'⟩
end
structure At (X : Cx) (Fb : FuncId → Bool) (SB : Blocks) (ρ : Rel) (gs : Array Goroutine) (fr : Frame) (cs : List Frame) (w : World) (t : Trace) (q : Nat → Nat) : Prop where
 g0 : gs[0]? = some (G fr cs)
 leavers : Leavers X.P t gs q
 past : vo SB w gs.size t
 foot : qbt SB (rng ρ) (own X ρ) w
 fr : FR X Fb true ρ fr fr
 cs : FsR X Fb true ρ cs cs
 wr : WR X ρ w w
 nb : NB w
def Runs (P : Program) (gs : Array Goroutine) (w : World) (sl : Option (Nat × Nat)) (t : Trace) (gs' : Array Goroutine) (w' : World) (sl' : Option (Nat × Nat)) (t' : Trace) : Prop := ∃ N, runNT P N (crowd gs w sl) t = (.next (crowd gs' w' sl'), t')
theorem Runs.trans {P : Program} {g1 g2 g3 : Array Goroutine} {w1 w2 w3 : World} {s1 s2 s3 : Option (Nat × Nat)} {t1 t2 t3 : Trace} (h : Runs P g1 w1 s1 t1 g2 w2 s2 t2) (k : Runs P g2 w2 s2 t2 g3 w3 s3 t3) : Runs P g1 w1 s1 t1 g3 w3 s3 t3 := by
 obtain ⟨N, h⟩ := h
 obtain ⟨M, k⟩ := k
 exact ⟨N + M, runNT_trans _ h k⟩
def qh9 (b : Frame) (k : List Item) : Exit → Act → Frame → Prop
 | .normal, a, fr => fr = b.at a k
 | .exit id, a, fr => ∃ k', exitTo id k = some k' ∧ fr = b.at a k'
 | .ret, a, fr => ∃ todo, fr = { b.at a todo with mode := .returning }
 |_, _, _ => False
def Plain (k : List Item) (Q : Exit → Act → World → Prop) : Prop := ∀ e a w, Q e a w → match e with
 | .normal | .ret => True
 | .exit id => ∃ k', exitTo id k = some k'
 |_ => False
def Tgt (b : Frame) (k : List Item) (Q : Exit → Act → World → Prop) (fr : Frame) (cs : List Frame) (w : World) : Prop := cs = [c0] ∧ ∃ e a, Q e a w ∧ qh9 b k e a fr
section
variable {X : Cx} {Fb : FuncId → Bool} {SB : Blocks}
theorem qdo (S : X.Set Fb true (fun _ => false)) {fr b : Frame} {k : List Item} {w : World} {Q : Exit → Act → World → Prop} (hinv : Inv X Fb true fr [c0] w) (hpl : Plain k Q) (hQS : ∀ e a w wc, Same w wc → Q e a w → Q e a wc)
  (hp : ∀ τ, Agree w τ → ∃ e a' w', Q e a' w' ∧ Arrives X.P (lone fr [c0] (re w τ)) b k [c0] e a' w') : qaw X.P (Tgt b k Q) fr [c0] w := by
 refine bar S (fun fr cs w h ch => ?_) (fun fr cs w τ hi ha h => ?_) hinv (fun τ ha => ?_)
 ·obtain ⟨_, e, a, _, hl⟩ := h
  cases e with
  |normal => rw [show fr = b.at a k from hl]; intro h; cases h
  |exit id => obtain ⟨k', _, rfl⟩ := hl; intro h; cases h
  |ret => obtain ⟨todo, rfl⟩ := hl; intro h; cases h
  |_ => exact hl.elim
 ·obtain ⟨h1, e, a, h2, h3⟩ := h
  exact ⟨h1, e, a, hQS e a (re w τ) w ⟨rfl, rfl, rfl⟩ h2, h3⟩
 ·obtain ⟨e, a', w', hq, harr⟩ := hp τ ha
  have hx := hpl _ _ _ hq
  have go : ∀ {fr2 : Frame}, qh9 b k e a' fr2 → Steps X.P (lone fr [c0] (re w τ)) (lone fr2 [c0] w') → qjh X.P (Tgt b k Q) fr [c0] (re w τ) := fun hl hs => by
   obtain ⟨n, hn⟩ := hs
   exact conv S (Q := Tgt b k Q) ⟨rfl, e, a', hq, hl⟩ n (.inl (hinv.re τ)) hn
  cases e with
  |normal => exact go rfl harr
  |exit id => obtain ⟨k', hk⟩ := hx; exact go ⟨k', hk, rfl⟩ (harr k' hk)
  |ret => obtain ⟨todo, hs⟩ := harr; exact go ⟨todo, rfl⟩ hs
  |_ => exact hx.elim
theorem piece (hPP : X.P' = X.P) (S : X.Set Fb true (fun _ => false)) {ρ : Rel} {gs : Array Goroutine} {fr b : Frame} {k : List Item} {cs : List Frame} {w : World} {sl : Option (Nat × Nat)} {t : Trace} {q : Nat → Nat} {Q : Exit → Act → World → Prop}
  (h : At X Fb SB ρ gs fr cs w t q) (hcs : cs ≠ []) (hro : fr.roundOf = none) (hpl : Plain k Q) (hQS : ∀ e a w wc, Same w wc → Q e a w → Q e a wc)
  (hp : ∀ τ, Agree w τ → ∃ e a' w', Q e a' w' ∧ Arrives X.P (lone fr [c0] (re w τ)) b k [c0] e a' w') :
  ∃ (gs' : Array Goroutine) (e : Exit) (a' : Act) (fr' : Frame) (w' : World) (sl' : Option (Nat × Nat)) (t' : Trace) (q' : Nat → Nat) (ρ' : Rel),
   Runs X.P gs w sl t gs' w' sl' t' ∧ Q e a' w' ∧ qh9 b k e a' fr' ∧ gs'.size = gs.size ∧ ρ.le ρ' ∧ At X Fb SB ρ' gs' fr' cs w' t' q' := by
 have hB : Bot [fr] := by
  intro f hf
  simp at hf
  subst hf
  exact hro
 have hinv : Inv X Fb true fr [c0] w := ⟨ρ, fr, [], [], w, rfl, h.fr, .nil, h.wr, h.nb, hB⟩
 have hm := qdo S hinv hpl hQS hp
 obtain ⟨N, gs', fr2, up2, w2, wc2, sl', t', q', ρ2, hr, ⟨htc, e, a', hq, hl⟩, hz, h0', hs, g1, g2, g3, g4, g5, hL', hP', hF'⟩ := qic hPP S (fun fr cs w h ch => by
   obtain ⟨_, e, a, _, hl⟩ := h
   cases e with
   |normal => rw [show fr = b.at a k from hl]; intro h; cases h
   |exit id => obtain ⟨k', _, rfl⟩ := hl; intro h; cases h
   |ret => obtain ⟨todo, rfl⟩ := hl; intro h; cases h
   |_ => exact hl.elim) hm (up := []) rfl hcs h.fr .nil (WN.of h.wr) (Same.refl w) h.nb hB h.g0 h.leavers h.past h.foot
 have hu : up2 = [] := by
  have := congrArg List.length htc
  simp at this
  exact List.eq_nil_of_length_eq_zero (by simpa using this)
 subst hu
 refine ⟨gs', e, a', fr2, wc2, sl', t', q', ρ2, ⟨N, hr⟩, hQS _ _ _ _ hs hq, hl, hz, g4, ⟨h0', hL', hP', hF', g1, h.cs.mono g4, ?_, ?_⟩⟩
 ·obtain ⟨τ0, _, k0⟩ := g3
  refine ⟨k0.fn, k0.inj, fun {a b} hab => ?_, fun _ _ => rfl, fun a ha => absurd ha (S.wrs rfl a)⟩
  obtain ⟨o, o', k1, k2, k3⟩ := k0.heap hab
  exact ⟨o, o', by rw [hs.heap]; exact k1, k2, k3⟩
 ·exact g5
end
end Go.Proofs.YtkpekiajdlolnabGreat.Ph
namespace Go.Proofs.YtkpekiajdlolnabGreat.Sim
open Go Go.Conc
def stop (n : Nat) : Item := .code (.loop (.block n .skip))
mutual
def st : List Item → List Item
 |k => stop k.length :: sf k
termination_by k => 2 * k.length + 1
def sf : List Item → List Item
 | [] => []
 | .inBlock id :: k => .inBlock id :: st k
 |_ :: k => sf k
termination_by k => 2 * k.length
end
theorem qew (k : List Item) : st k = stop k.length :: sf k := by rw [st]
theorem qts (id : Nat) (k : List Item) : exitTo id (sf k) = (exitTo id k).map st := by
 induction k with
 |nil => rw [sf]; rfl
 |cons a k ih =>
  cases a with
  |inBlock id' =>
   rw [sf]
   unfold exitTo
   split
   ·rfl
   ·rw [qew]
    show exitTo id (stop k.length :: sf k) = _
    rw [← ih]; rfl
  |_ =>
   rw [sf, ih]
   ·rfl
   ·intro _ e; cases e
theorem qfn (id : Nat) (k : List Item) : exitTo id (st k) = (exitTo id k).map st := by
 rw [qew, ← qts]; rfl
theorem qb2 (id : Nat) (k : List Item) : ∀ u, exitTo id (u ++ k) = ((exitTo id u).map (· ++ k)).or (exitTo id k)
 | [] => by simp [exitTo]
 |a :: u => by
  cases a with
  |inBlock id' =>
   show exitTo id (.inBlock id' :: (u ++ k)) = _
   have e : ∀ l, exitTo id (.inBlock id' :: l) = if id' == id then some l else exitTo id l := fun l => rfl
   rw [e, e]
   split
   ·simp
   ·rw [qb2 id k u]
  |_ => exact qb2 id k u
theorem qf7 {id : Nat} : ∀ {k k' : List Item}, exitTo id k = some k' → k' <:+ k
 | [], _, h => by cases h
 |a :: k, k', h => by
  have key : ∀ {k1}, exitTo id k = some k1 → k1 <:+ a :: k := fun h => (qf7 h).trans (List.suffix_cons a k)
  cases a with
  |inBlock id' =>
   unfold exitTo at h
   split at h
   ·cases h; exact List.suffix_cons _ _
   ·exact key h
  |_ => exact key h
theorem q6r {k k1 k2 : List Item} (h1 : k1 <:+ k) (h2 : k2 <:+ k) (h : st k1 = st k2) : k1 = k2 := by
 rw [qew, qew] at h
 injection h with h _
 injection h with h
 injection h with h
 injection h with h _
 exact (List.suffix_of_suffix_length_le h1 h2 (Nat.le_of_eq h)).eq_of_length h
theorem qie (P P' : Program) (Fb : FuncId → Bool) (wr : Bool) (n : Nat) : codeOk P P' Fb wr (.loop (.block n .skip)) = true := rfl
section
variable {X : Cx} {Fb : FuncId → Bool} {wr : Bool} {sp : FuncId → Bool} {ρ : Rel}
theorem IsR.sf (X : Cx) (Fb : FuncId → Bool) (wr : Bool) (ρ : Rel) : ∀ k, IsR X Fb wr ρ (sf k) (sf k)
 | [] => by rw [Sim.sf]; exact .nil
 |a :: k => by
  have ih := IsR.sf X Fb wr ρ k
  cases a with
  |inBlock id => rw [Sim.sf, qew]; exact .cons (.inBlock id) (.cons (.code (qie _ _ _ _ _)) ih)
  |_ =>
   rw [Sim.sf]
   ·exact ih
   ·intro _ e; cases e
theorem IsR.st (X : Cx) (Fb : FuncId → Bool) (wr : Bool) (ρ : Rel) (k : List Item) : IsR X Fb wr ρ (st k) (st k) := by
 rw [qew]; exact .cons (.code (qie _ _ _ _ _)) (IsR.sf X Fb wr ρ k)
end
def bare (o : Oper) : Oper := { o with guard := none }
inductive TS (k : List Item) (tm : Array Value) : List Item → List Item → Prop
 |code (a : Item) (u : List Item) : TS k tm (a :: u ++ st k) (a :: u ++ k)
 |op {ops : Array Oper} {i : Nat} {td : List Nat} {k0 : List Item} {o : Oper} : k = .inRegion ops td :: k0 → ops[i]? = some o → Region.wanted o (yielded ops tm) = true →
   TS k tm (.inRegion #[bare o] [0] :: st k) (.inRegion ops (i :: td) :: k0)
def wt (f : Frame) (t : List Item) : Frame := { f with todo := t }
inductive Sw (k : List Item) : Frame → List Frame → Frame → List Frame → Prop
 |bot {f : Frame} {t t' : List Item} : TS k f.tmps t t' → Sw k (wt f t) [] (wt f t') []
 |ret {f : Frame} {t t' : List Item} : f.mode = .returning → Sw k (wt f t) [] (wt f t') []
 |above {g : Frame} {up : List Frame} {f : Frame} {t t' : List Item} : TS k f.tmps t t' → Sw k g (up ++ [wt f t]) g (up ++ [wt f t'])
inductive Ld (k : List Item) : Frame → Frame → Prop
 |land {f : Frame} {k' : List Item} : k' = k ∨ (∃ id, exitTo id k = some k') → Ld k (wt f (st k')) (wt f k')
 |late {f : Frame} {o : Oper} : Ld k (wt f (.inRegion #[o] [] :: st k)) (wt f k)
inductive Aft (k : List Item) : Frame → List Frame → Frame → List Frame → Prop
 |sw {fr gr : Frame} {up gup : List Frame} : Sw k fr up gr gup → Aft k fr up gr gup
 |ld {fr gr : Frame} : Ld k fr gr → Aft k fr [] gr []
 |panic {fr gr : Frame} {ch : List PanicEntry} : fr.mode = .panicking ch → Aft k fr [] gr []
def jh (k : List Item) (base : List Frame) (s s' : GStep) : Prop :=
 (∃ jv up1 gr1 qf0 w1 es, s = .go (G jv (up1 ++ base)) w1 es ∧ s' = .go (G gr1 (qf0 ++ base)) w1 es ∧ Aft k jv up1 gr1 qf0) ∨ ∀ g1 w1 es, s ≠ .go g1 w1 es
theorem jh.ended {k : List Item} {base : List Frame} {o : Outcome} {w : World} {es : Array Event} {s' : GStep} : jh k base (.ended o w es) s' := .inr fun _ _ _ e => by cases e
theorem jh.after {k : List Item} {base : List Frame} {es0 : Array Event} {s s' : GStep} (h : jh k base s s') : jh k base (GStep.after es0 s) (GStep.after es0 s') := by
 rcases h with ⟨jv, up1, gr1, qf0, w1, es, rfl, rfl, h⟩ | h
 ·exact .inl ⟨jv, up1, gr1, qf0, w1, es0 ++ es, rfl, rfl, h⟩
 ·refine .inr fun g1 w1 es e => ?_
  obtain ⟨es2, k1, _⟩ := qfj e
  exact h g1 w1 es2 k1
theorem jh.to {k : List Item} {base : List Frame} (f : Frame) (u : List Item) (w : World) (es : Array Event) : jh k base (.go (G (wt f (u ++ st k)) base) w es) (.go (G (wt f (u ++ k)) base) w es) := by
 refine .inl ⟨wt f (u ++ st k), [], wt f (u ++ k), [], w, es, rfl, rfl, ?_⟩
 cases u with
 |nil => exact .ld (.land (.inl rfl))
 |cons a u => exact .sw (.bot (.code a u))
theorem jh.ret {k : List Item} {base : List Frame} (f : Frame) (t t' : List Item) (hm : f.mode = .returning) (w : World) (es : Array Event) : jh k base (.go (G (wt f t) base) w es) (.go (G (wt f t') base) w es) :=
 .inl ⟨wt f t, [], wt f t', [], w, es, rfl, rfl, .sw (.ret hm)⟩
theorem jh.panic {k : List Item} {base : List Frame} {f g : Frame} {ch : List PanicEntry} (hm : f.mode = .panicking ch) {w : World} {es : Array Event} : jh k base (.go (G f base) w es) (.go (G g base) w es) :=
 .inl ⟨f, [], g, [], w, es, rfl, rfl, .panic hm⟩
section
variable {X : Cx} {Fb : FuncId → Bool} {wr : Bool} {sp : FuncId → Bool} {ρ : Rel}
def qr0 : List Item → Prop
 | .call _ _ _ _ :: _ => False
 |_ => True
theorem qgx {k : List Item} {base : List Frame} {f : Frame} {t t' : List Item} {w w' : World} (hw : WR X ρ w w') (hm : f.mode = .run) (hk : f.kind = .normal) (hp : qr0 t) (hp' : qr0 t')
  (hfin : ∀ v, Aft k ((wt f t).finish v) [] ((wt f t').finish v) []) (hts : TS k f.tmps t t')
  {s s' : Sem Next} (hs : SS X ρ s s' (fun ρ1 n n' => NR X ρ1 n n')) : jh k base (stepG.apply X.P true (wt f t) base none s w) (stepG.apply X.P true (wt f t') base none s w) := by
 have e1 : ((wt f t).kind == CallKind.early) = false := by show (f.kind == _) = _; rw [hk]; rfl
 have e2 : ((wt f t').kind == CallKind.early) = false := e1
 have hk1 : (match (wt f t).todo with | .call _ true _ _ :: _ => CallKind.wrapped | _ => .normal) = .normal := by
  show (match t with | .call _ true _ _ :: _ => CallKind.wrapped | _ => .normal) = .normal
  split
  ·exact hp.elim
  ·rfl
 have hk2 : (match (wt f t').todo with | .call _ true _ _ :: _ => CallKind.wrapped | _ => .normal) = .normal := by
  show (match t' with | .call _ true _ _ :: _ => CallKind.wrapped | _ => .normal) = .normal
  split
  ·exact hp'.elim
  ·rfl
 rcases hr : s.runT X.P w #[] with ⟨r, es0⟩
 unfold stepG.apply
 simp only [if_true, hr, e1, e2, Bool.false_eq_true, if_false, hk1, hk2]
 cases r with
 |halt h wx =>
  have hr' : s.run X.P w = .halt h wx := by rw [← Sem.runT_fst X.P s w #[], hr]
  obtain ⟨qcw, -⟩ := hs.2 w w' h wx hw hr'
  cases h with
  |panic v =>
   refine jh.after (jh.panic (ch := [{ v, recovered := false }]) ?_)
   show ((wt f t).raise _).mode = _
   unfold Frame.raise
   rw [show (wt f t).mode = .run from hm]
  |unsupported u =>
   cases u with
   |initOrder b => exact qcw.elim
   |_ => exact jh.after jh.ended
  |stuck m => exact jh.after jh.ended
  |_ => exact qcw.elim
 |ok n wx =>
  have hr' : s.run X.P w = .ok n wx := by rw [← Sem.runT_fst X.P s w #[], hr]
  obtain ⟨ρ1, n', w1', es1, h1, h2, h3, h4, h5, h6, h7⟩ := hs.1 w w' n wx #[] hw hr'
  cases h6 with
  |value h => exact jh.after (.inl ⟨_, [], _, [], _, _, rfl, rfl, hfin _⟩)
  |skip => exact jh.after (.inl ⟨_, [], _, [], _, _, rfl, rfl, hfin _⟩)
  | @enter g ars zw _ _ =>
   refine jh.after (.inl ⟨Frame.enter X.P g ars .normal, [wt f t], Frame.enter X.P g ars .normal, [wt f t'], wx, #[], ?_, ?_, .sw (.above (up := []) hts)⟩)
   ·rcases t with _ | ⟨i, l⟩
    ·rfl
    ·cases i <;> first | rfl | exact hp.elim
   ·rcases t' with _ | ⟨i, l⟩
    ·rfl
    ·cases i <;> first | rfl | exact hp'.elim
  |round _ _ _ _ _ => exact jh.after (.inl ⟨_, [wt f t], _, [wt f t'], _, _, rfl, rfl, .sw (.above (up := []) hts)⟩)
end
section
variable {X : Cx} {Fb : FuncId → Bool} {wr : Bool} {sp : FuncId → Bool} {ρ : Rel}
theorem qi5 {f : Frame} {ops : Array Oper} {i : Nat} {td : List Nat} {l : List Item} {o : Oper} (ho : ops[i]? = some o) (hr : f.roundOf = none) (base : List Frame) (w : World) :
  stepG.oper X.P true (wt f (.inRegion ops (i :: td) :: l)) base none w = stepG.apply X.P true (wt f (.inRegion ops (i :: td) :: l)) base none (execOp f.eval o) w := by
 have op1 : (wt f (.inRegion ops (i :: td) :: l)).oper? = some o := ho
 have e : (wt f (.inRegion ops (i :: td) :: l)).eval = f.eval := by funext x; cases x <;> rfl
 unfold stepG.oper
 rw [op1]
 dsimp only
 rw [e]
 have hr' : (wt f (.inRegion ops (i :: td) :: l)).roundOf = none := hr
 rw [hr']
theorem qlu {P : Program} {m : Bool} {f : Frame} {ops : Array Oper} {i : Nat} {td : List Nat} {l : List Item} (h : ((ops[i]?).map (Region.wanted · (yielded ops f.tmps))).getD false = true) (base : List Frame) (w : World) :
  stepG.exec P m true (wt f (.inRegion ops (i :: td) :: l)) base none w = stepG.oper P true (wt f (.inRegion ops (i :: td) :: l)) base none w := by
 unfold stepG.exec
 exact if_pos h
theorem qlt {P : Program} {m : Bool} {f : Frame} {ops : Array Oper} {i : Nat} {td : List Nat} {l : List Item} (h : ¬ ((ops[i]?).map (Region.wanted · (yielded ops f.tmps))).getD false = true) (base : List Frame) (w : World) :
  stepG.exec P m true (wt f (.inRegion ops (i :: td) :: l)) base none w = .go (G ((wt f (.inRegion ops (i :: td) :: l)).finish undef) base) w #[] := by
 unfold stepG.exec
 exact if_neg h
theorem qfa {k : List Item} {f : Frame} {ops : Array Oper} {i : Nat} {td : List Nat} {u : List Item} (v : Value) :
  Aft k ((wt f (.inRegion ops (i :: td) :: u ++ st k)).finish v) [] ((wt f (.inRegion ops (i :: td) :: u ++ k)).finish v) [] :=
 .sw (.bot (f := { f with tmps := match (ops[i]?).bind (·.dst) with
        |some d => f.tmps.setIfInBounds d v
        |none => f.tmps }) (.code (.inRegion ops td) u))
theorem qly {k : List Item} {f : Frame} {ops : Array Oper} {i : Nat} {td : List Nat} {k0 : List Item} {o : Oper} (hk : k = .inRegion ops td :: k0) (ho : ops[i]? = some o) (v : Value) :
  Aft k ((wt f (.inRegion #[bare o] [0] :: st k)).finish v) [] ((wt f (.inRegion ops (i :: td) :: k0)).finish v) [] := by
 have e : (wt f (.inRegion ops (i :: td) :: k0)).finish v = wt { f with tmps := match o.dst with
        |some d => f.tmps.setIfInBounds d v
        |none => f.tmps } k := by
  show (Frame.mk _ _ _ _ _ _ _ : Frame) = _
  subst hk
  unfold wt
  simp only [ho, Option.bind_some]
  rfl
 rw [e]
 exact .ld (.late (f := { f with tmps := match o.dst with
        |some d => f.tmps.setIfInBounds d v
        |none => f.tmps }) (o := bare o))
theorem q1c (S : X.Set Fb wr sp) {k : List Item} {base : List Frame} {f fr' : Frame} {t t' : List Item} {w w' : World} (hts : TS k f.tmps t t') (hf : FR X Fb wr ρ (wt f t) fr') (hw : WR X ρ w w') (hm : f.mode = .run) (m : Bool) (hro : f.roundOf = none) :
  jh k base (stepG.exec X.P m true (wt f t) base none w) (stepG.exec X.P m true (wt f t') base none w) := by
 have hk : f.kind = .normal := hf.kind
 have hev := hf.eval S
 have hco : ∀ c, codeOk X.P X.P' Fb wr c = true → X.C c := fun c h => (S.c c).2 h
 have he0 : ∀ t, (wt f t).eval = f.eval := fun t => by funext x; cases x <;> rfl
 cases hts with
 | @op ops i td k0 o e ho hwant =>
  have hwr : Region.wanted (bare o) (yielded #[bare o] f.tmps) = true := rfl
  have ht : IsR X Fb wr ρ (.inRegion #[bare o] [0] :: st k) fr'.todo := hf.todo
  have hok : qa0 X.P X.P' Fb wr (bare o) = true := by
   generalize fr'.todo = tf at ht
   cases ht with
   |cons a b => cases a with
    |inRegion td c => exact qec c (i := 0) rfl
  have ex : execOp f.eval (bare o) = execOp f.eval o := rfl
  have e1 : stepG.exec X.P m true (wt f (.inRegion #[bare o] [0] :: st k)) base none w = stepG.oper X.P true (wt f (.inRegion #[bare o] [0] :: st k)) base none w := by
   unfold stepG.exec
   exact if_pos hwr
  have e2 : stepG.exec X.P m true (wt f (.inRegion ops (i :: td) :: k0)) base none w = stepG.oper X.P true (wt f (.inRegion ops (i :: td) :: k0)) base none w := by
   unfold stepG.exec
   refine if_pos ?_
   show ((ops[i]?).map (Region.wanted · (yielded ops f.tmps))).getD false = true
   rw [ho]; exact hwant
  rw [e1, e2, qi5 (o := bare o) rfl hro, qi5 ho hro, ex]
  refine qgx (t := .inRegion #[bare o] [0] :: st k) (t' := .inRegion ops (i :: td) :: k0) hw hm hk trivial trivial (fun v => qly e ho v) (.op e ho hwant) ?_ (s' := execOp fr'.eval (bare o))
  rw [← ex, ← he0]
  exact SS.execOp S.ok wr S.wrs _ hok _ _ hev
 | @code a u =>
  have ht : IsR X Fb wr ρ (a :: (u ++ st k)) fr'.todo := hf.todo
  show jh k base (stepG.exec X.P m true (wt f (a :: (u ++ st k))) base none w) (stepG.exec X.P m true (wt f (a :: (u ++ k))) base none w)
  generalize htd : fr'.todo = tf at ht
  cases ht with
  | @cons _ i' _ l' a b =>
  unfold stepG.exec
  cases a with
  |inBlock id => exact jh.to f u w #[]
  | @inLoop c => exact jh.to f (.code c :: .inLoop c :: u) w #[]
  |inRangeFunc r => exact jh.ended
  |beginRound =>
   have jae : ∀ t, (wt f t).roundOf = none := fun _ => hro
   dsimp only
   rw [jae, jae]
   refine qgx (t := .beginRound :: u ++ st k) (t' := .beginRound :: u ++ k) hw hm hk trivial trivial (fun v => ?_) (.code .beginRound u) (SS.dies (q9.ku (q9.stuck _)) : SS X ρ _ (do (none.elim (Go.stuck "beginRound: no round") Instr.beginRound : Sem Unit); Pure.pure .skip) _)
   cases u with
   |nil => exact .ld (.land (f := f) (.inl rfl))
   |cons a u => exact .sw (.bot (f := f) (.code a u))
  | @endRangeFunc l l' r =>
   dsimp only [wt]
   generalize (Instr.endLoop l).runT X.P w #[] = p0
   obtain ⟨r0, es0⟩ := p0
   cases r0 with
   |halt h wx =>
    cases h with
    |panic v =>
     refine jh.after (jh.panic (ch := [{ v, recovered := false }]) ?_)
     unfold Frame.raise
     simp only [hm]
    |_ => exact jh.after jh.ended
   |ok j wx =>
    refine jh.after ?_
    have := jh.to (k := k) (base := base) f ((j.map Item.code).toList ++ u) wx #[]
    rw [List.append_assoc, List.append_assoc] at this
    exact this
  | @inRegion ops td c =>
   cases td with
   |nil => exact jh.to f u w #[]
   |cons i td =>
    show jh k base (stepG.exec X.P m true (wt f (.inRegion ops (i :: td) :: (u ++ st k))) base none w) (stepG.exec X.P m true (wt f (.inRegion ops (i :: td) :: (u ++ k))) base none w)
    by_cases hwant : ((ops[i]?).map (Region.wanted · (yielded ops f.tmps))).getD false = true
    ·rw [qlu hwant, qlu hwant]
     cases ho : ops[i]? with
     |none => rw [ho] at hwant; cases hwant
     |some o =>
      have hok := qec c ho
      rw [qi5 ho hro, qi5 ho hro]
      refine qgx (t := .inRegion ops (i :: td) :: u ++ st k) (t' := .inRegion ops (i :: td) :: u ++ k) hw hm hk trivial trivial (fun v => qfa (u := u) v) (.code (.inRegion ops (i :: td)) u) ?_ (s' := execOp fr'.eval o)
      rw [← he0]
      exact SS.execOp S.ok wr S.wrs o hok _ _ hev
    ·rw [qlt hwant, qlt hwant]
     exact .inl ⟨_, [], _, [], _, _, rfl, rfl, qfa (u := u) undef⟩
  | @code c hc =>
   cases c with
   |skip => exact jh.to f u w #[]
   |ret =>
    dsimp only [wt]
    simp only [hro, if_true]
    rw [← hro]
    exact jh.ret { f with mode := .returning } (.code .ret :: (u ++ st k)) (.code .ret :: (u ++ k)) rfl w #[]
   |seq x y => exact jh.to f (.code x :: .code y :: u) w #[]
   |cond x y z =>
    have he1 : ∀ t, Frame.eval { f with todo := t } x = f.eval x := fun t => congrFun (he0 t) x
    dsimp only [wt]
    rw [he1 (.code (.cond x y z) :: (u ++ st k)), he1 (.code (.cond x y z) :: (u ++ k))]
    generalize f.eval x = v
    cases v <;> first | exact jh.ended | exact jh.to f (.code _ :: u) w #[]
   |block id c => exact jh.to f (.code c :: .inBlock id :: u) w #[]
   |loop c => exact jh.to f (.code c :: .inLoop c :: u) w #[]
   |exit id =>
    dsimp only [wt]
    simp only [hro]
    rw [← hro, qb2, qb2, qfn]
    cases h1 : exitTo id u with
    |some u' => exact jh.to f u' w #[]
    |none =>
     cases h2 : exitTo id k with
     |some k' => exact .inl ⟨wt f (st k'), [], wt f k', [], w, #[], rfl, rfl, .ld (.land (.inr ⟨id, h2⟩))⟩
     |none => exact jh.ended
   |region id ops draw =>
    cases draw with
    |false => exact jh.to f (.inRegion ops _ :: u) w #[]
    |true =>
     dsimp only [wt]
     simp only [Bool.not_true, Bool.false_eq_true, if_false]
     rcases hr : (choose (.order f.fn id)).run X.P w with ⟨t, wx⟩ | ⟨h, wx⟩
     ·exact jh.to f (.inRegion ops _ :: u) wx #[]
     ·exact jh.ended
   |rangeFunc g params assign body =>
    simp only [codeOk, Bool.and_eq_true] at hc
    obtain ⟨hc1, hc2, hc3⟩ := hc
    have hG : X.G f.fn := hf.same
    have hfl : qfx ρ f.roundOf fr'.roundOf := hf.round
    have hen := SS.enterLoop hG (show jw X.F ρ f.tmps.toList fr'.tmps.toList from hf.tmps) params (hco _ hc2) (hco _ hc3) hfl
    dsimp only [wt]
    generalize hr : (Instr.enterLoop f.fn f.tmps params assign body f.roundOf).runT X.P w #[] = p0
    obtain ⟨r0, es0⟩ := p0
    cases r0 with
    |halt h wx => exact jh.after jh.ended
    |ok p wx =>
     obtain ⟨l1, mark⟩ := p
     obtain ⟨ρ1, p', w1', es1, h1, h2, h3, h4, h5, ⟨h6, h6'⟩, h7⟩ := qci hen hw hr
     obtain ⟨l1', mark'⟩ := p'
     dsimp only at h6 h6'
     have hev1 : EvR X.F Fb ρ1 f.eval fr'.eval := by
      have := (hf.mono h3.le).eval S
      rw [he0] at this
      exact this
     exact jh.after (qgx (f := { f with defers := mark ++ f.defers }) (t := .inRangeFunc l1 :: u ++ st k) (t' := .inRangeFunc l1 :: u ++ k) h2 hm hk trivial trivial
      (fun v => .sw (.bot (f := { f with defers := mark ++ f.defers }) (.code (.endRangeFunc l1) u))) (.code (.inRangeFunc l1) u) (SS.iterate S.ok (fun _ => rfl) (fun _ => rfl) (hev1.1 g hc1) h6))
   |_ => simp [codeOk] at hc
end
def BcS (f : List Frame → GStep) : Prop := vw f ∨ ∃ v w1 es, ∀ c base, f (c :: base) = .go (G (Frame.finish c v) base) w1 es
theorem BcS.of {f : List Frame → GStep} (h : vw f) : BcS f := .inl h
section
variable {X : Cx} {Fb : FuncId → Bool} {wr : Bool} {sp : FuncId → Bool} {ρ : Rel}
theorem qj5 {fr : Frame} {w : World} (hk : fr.kind = .normal) (jump : Option Code) (m : Bool) : BcS (fun base => qbz X.P m fr base jump w) := by
 cases hro : fr.roundOf with
 |none => exact .inl (qg6 (up := []) hk jump m (by rw [hro]; intro h; cases h))
 |some l =>
  obtain ⟨fn, tmps, todo, defers, mode, kind, ro⟩ := fr
  obtain rfl : kind = .normal := hk
  obtain rfl : ro = some l := hro
  unfold qbz
  dsimp only
  rcases hr : (Instr.endRound l jump).runT X.P w #[] with ⟨r, es0⟩
  cases r with
  |halt h wx => exact .inl (vw.after (vw.ended fun _ => ⟨_, _, _, rfl⟩))
  |ok v wx => exact .inr ⟨v, wx, seen X.P fn es0 ++ #[], fun c base => rfl⟩
theorem q1b (S : X.Set Fb wr sp) {fr fr' : Frame} {w w' : World} (hf : FR X Fb wr ρ fr fr') (hw : WR X ρ w w') (hm : fr.mode = .run) (m : Bool) :
  BcS (fun base => stepG.exec X.P m true fr base none w) := by
 obtain ⟨fn, tmps, todo, defers, mode, kind, ro⟩ := fr
 obtain ⟨fn', qal, todo', defers', qcj, kind', ro'⟩ := fr'
 have ht : IsR X Fb wr ρ todo todo' := hf.todo
 obtain rfl : fn' = fn := hf.fn
 have hk : kind = .normal := hf.kind
 have hco : ∀ c, codeOk X.P X.P' Fb wr c = true → X.C c := fun c h => (S.c c).2 h
 unfold stepG.exec
 cases ht with
 |nil => exact qj5 hk none m
 | @cons i i' l l' a b =>
  cases a with
  |inBlock id => exact BcS.of <| vw.go _ [] w #[] fun _ => rfl
  |inLoop c => exact BcS.of <| vw.go _ [] w #[] fun _ => rfl
  |inRangeFunc r => exact BcS.of <| vw.ended fun _ => ⟨_, _, _, rfl⟩
  |beginRound =>
   refine BcS.of <| qdu (up := []) (fr := ⟨fn', tmps, _, defers, mode, kind, ro⟩) (s' := do (ro'.elim (Go.stuck "beginRound: no round") Instr.beginRound : Sem Unit); Pure.pure .skip) hw hm hk ?_
   have hr0 : qfx ρ ro ro' := hf.round
   rcases hr0 with ⟨rfl, rfl⟩ | ⟨l, l', rfl, rfl, hl⟩
   ·exact SS.dies (q9.ku (q9.stuck _))
   ·exact (SS.beginRound hl).bind fun _ _ _ _ _ => SS.pure .skip
  | @endRangeFunc l l' r =>
   dsimp only
   rcases hr : (Instr.endLoop l).runT X.P w #[] with ⟨r0, es0⟩
   cases r0 with
   |halt h wx =>
    cases h with
    |panic v => exact BcS.of <| vw.after (vw.go _ [] wx #[] fun _ => rfl)
    |_ => exact BcS.of <| vw.after (vw.ended fun _ => ⟨_, _, _, rfl⟩)
   |ok j wx => exact BcS.of <| vw.after (vw.go _ [] wx #[] fun _ => rfl)
  | @inRegion ops td c =>
   cases td with
   |nil => exact BcS.of <| vw.go _ [] w #[] fun _ => rfl
   |cons i td =>
    dsimp only
    by_cases hwant : ((ops[i]?).map (Region.wanted · (yielded ops tmps))).getD false = true
    ·simp only [if_pos hwant]
     cases ho : ops[i]? with
     |none => rw [ho] at hwant; cases hwant
     |some o =>
      have hok := qec c ho
      have nd : ∀ c, o.op ≠ .defer c := fun c e => by
       unfold qa0 at hok
       rw [e] at hok
       simp at hok
      have op1 : (⟨fn', tmps, .inRegion ops (i :: td) :: l, defers, mode, kind, ro⟩ : Frame).oper? = some o := ho
      have e : (fun base => stepG.oper X.P true (⟨fn', tmps, .inRegion ops (i :: td) :: l, defers, mode, kind, ro⟩ : Frame) base none w) =
        fun base => stepG.apply X.P true (⟨fn', tmps, .inRegion ops (i :: td) :: l, defers, mode, kind, ro⟩ : Frame) base none (execOp (Frame.eval (⟨fn', tmps, .inRegion ops (i :: td) :: l, defers, mode, kind, ro⟩ : Frame)) o) w := by
       funext base
       unfold stepG.oper
       rw [op1]
       dsimp only
       split
       ·rename_i e; exact absurd e (nd _)
       ·rfl
      rw [e]
      exact BcS.of <| qdu (up := []) hw hm hk (SS.execOp S.ok wr S.wrs o hok _ _ (hf.eval S))
    ·simp only [if_neg hwant]
     exact BcS.of <| vw.go _ [] w #[] fun _ => rfl
  | @code c hc =>
   cases c with
   |skip => exact BcS.of <| vw.go _ [] w #[] fun _ => rfl
   |ret => exact qj5 (fr := ⟨fn', tmps, _, defers, mode, kind, ro⟩) hk (some .ret) m
   |seq x y => exact BcS.of <| vw.go _ [] w #[] fun _ => rfl
   |cond x y z =>
    dsimp only
    generalize Frame.eval _ x = v
    cases v <;> first | exact BcS.of <| vw.go _ [] w #[] (fun _ => rfl) | exact BcS.of <| vw.ended fun _ => ⟨_, _, _, rfl⟩
   |block id c => exact BcS.of <| vw.go _ [] w #[] fun _ => rfl
   |loop c => exact BcS.of <| vw.go _ [] w #[] fun _ => rfl
   |exit id =>
    dsimp only
    cases exitTo id l with
    |none => exact qj5 (fr := ⟨fn', tmps, _, defers, mode, kind, ro⟩) hk (some (.exit id)) m
    |some k => exact BcS.of <| vw.go _ [] w #[] fun _ => rfl
   |region id ops draw =>
    cases draw with
    |false => exact BcS.of <| vw.go _ [] w #[] fun _ => rfl
    |true =>
     dsimp only
     simp only [Bool.not_true, Bool.false_eq_true, if_false]
     rcases hr : (choose (.order fn' id)).run X.P w with ⟨t, wx⟩ | ⟨h, wx⟩
     ·exact BcS.of <| vw.go _ [] wx #[] fun _ => rfl
     ·exact BcS.of <| vw.ended fun _ => ⟨_, _, _, rfl⟩
   |rangeFunc f params assign body =>
    simp only [codeOk, Bool.and_eq_true] at hc
    obtain ⟨hc1, hc2, hc3⟩ := hc
    have hG : X.G fn' := hf.same
    dsimp only
    rcases hr : (Instr.enterLoop fn' tmps params assign body ro).runT X.P w #[] with ⟨r0, es0⟩
    have hen := SS.enterLoop hG hf.tmps params (hco _ hc2) (hco _ hc3) hf.round
    cases r0 with
    |halt h wx => exact BcS.of <| vw.after (vw.ended fun _ => ⟨_, _, _, rfl⟩)
    |ok p wx =>
     obtain ⟨l1, mark⟩ := p
     obtain ⟨ρ1, p', w1', es1, h1, h2, h3, h4, h5, ⟨h6, h6'⟩, h7⟩ := qci hen hw hr
     obtain ⟨l1', mark'⟩ := p'
     dsimp only at h6 h6'
     have hf1 := hf.mono h3.le
     have hf2 : FR X Fb wr ρ1 ⟨fn', tmps, .inRangeFunc l1 :: l, mark ++ defers, mode, kind, ro⟩ ⟨fn', qal, .inRangeFunc l1' :: l', mark' ++ defers', qcj, kind', ro'⟩ :=
      ⟨hf1.fn, hf1.same, hf1.tmps, .cons (.inRangeFunc h6) (b.mono h3.le), h6'.append hf1.defers, hf1.mode, hf1.run, hf1.kind, hf1.kind', hf1.round⟩
     exact BcS.of <| vw.after (qdu (up := []) (fr := ⟨fn', tmps, .inRangeFunc l1 :: l, mark ++ defers, mode, kind, ro⟩) h2 hm hk (SS.iterate S.ok (fun _ => rfl) (fun _ => rfl) ((hf2.eval S).1 f hc1) h6))
   |_ => simp [codeOk] at hc
theorem qu3 (S : X.Set Fb wr sp) {fr fr' : Frame} {w : World} (hf : FR X Fb wr ρ fr fr') (hm : fr.mode = .returning) (m : Bool) : BcS (fun base => unwind X.P m fr base none w) := by
 by_cases hd : fr.defers = []
 ·obtain ⟨fn, tmps, todo, defers, mode, kind, ro⟩ := fr
  obtain rfl : mode = .returning := hm
  obtain rfl : kind = .normal := hf.kind
  obtain rfl : defers = [] := hd
  obtain ⟨f, q1, q2⟩ := hf.same
  have q1 : X.P.funcs[fn]? = some f := q1
  unfold unwind
  dsimp only
  rw [q1]
  dsimp only
  rcases hr : (results f tmps).runT X.P w #[] with ⟨r0, es0⟩
  cases r0 with
  |halt h wx => cases h <;> exact .inl (vw.after (vw.ended fun _ => ⟨_, _, _, rfl⟩))
  |ok v wx => exact .inr ⟨v, wx, _, fun c base => rfl⟩
 ·exact .inl (qh6 (up := []) S hf hm m (.inl hd))
theorem q2w (S : X.Set Fb wr sp) {fr fr' : Frame} {w w' : World} (hf : FR X Fb wr ρ fr fr') (hw : WR X ρ w w') (m : Bool) : BcS (fun base => stepG X.P m (G fr base) w) := by
 rcases hf.run with hm | hm
 ·have e : (fun base => stepG X.P m (G fr base) w) = fun base => stepG.exec X.P m true fr base none w := funext fun base => vv _ _ _ _ _ hm
  rw [e]
  exact q1b S hf hw hm m
 ·have e : (fun base => stepG X.P m (G fr base) w) = fun base => unwind X.P m fr base none w := funext fun base => zm _ _ _ _ _ hm
  rw [e]
  exact qu3 S hf hm m
theorem qql {k : List Item} {f : Frame} {t t' : List Item} (h : TS k f.tmps t t') (v : Value) : Aft k ((wt f t).finish v) [] ((wt f t').finish v) [] := by
 cases h with
 |op e ho hw => exact qly e ho v
 |code a u =>
  cases a with
  |inRegion ops td =>
   cases td with
   |nil => exact .sw (.bot (f := f) (.code (.inRegion ops []) u))
   |cons i td => exact qfa (u := u) v
  |inRangeFunc l => exact .sw (.bot (f := f) (.code (.endRangeFunc l) u))
  |beginRound =>
   cases u with
   |nil => exact .ld (.land (f := f) (.inl rfl))
   |cons a u => exact .sw (.bot (f := f) (.code a u))
  |call d wrapper resume saved => exact .sw (.bot (f := f) (.code _ u))
  |code c => exact .sw (.bot (f := f) (.code (.code c) u))
  |inBlock id => exact .sw (.bot (f := f) (.code (.inBlock id) u))
  |inLoop c => exact .sw (.bot (f := f) (.code (.inLoop c) u))
  |inScope c => exact .sw (.bot (f := f) (.code (.inScope c) u))
  |endRangeFunc c => exact .sw (.bot (f := f) (.code (.endRangeFunc c) u))
  |_ =>
   cases u with
   |nil => exact .ld (.land (f := { f with tmps := #[v] }) (.inl rfl))
   |cons a u => exact .sw (.bot (f := { f with tmps := #[v] }) (.code a u))
theorem qu4 {k : List Item} {base : List Frame} {f fr' : Frame} {t t' : List Item} {w : World} (hf : FR X Fb wr ρ (wt f t) fr') (hm : f.mode = .returning) (m : Bool) (hd : f.defers ≠ []) :
  jh k base (unwind X.P m (wt f t) base none w) (unwind X.P m (wt f t') base none w) := by
 obtain ⟨fn, tmps, todo, defers, mode, kind, ro⟩ := f
 obtain rfl : mode = .returning := hm
 obtain rfl : kind = .normal := hf.kind
 have hds : DsR ρ defers fr'.defers := hf.defers
 generalize fr'.defers = ds at hds
 cases hds with
 |nil => exact absurd rfl hd
 | @cons r r' l l' a b =>
  unfold unwind wt
  dsimp only
  generalize (Instr.takeDeferred r).runT X.P w #[] = p0
  obtain ⟨r0, es0⟩ := p0
  cases r0 with
  |halt h wx => exact jh.after jh.ended
  |ok v wx => exact jh.after (jh.ret ⟨fn, tmps, [], _, .returning, .normal, ro⟩ t t' rfl wx #[])
theorem q2y (S : X.Set Fb wr sp) {k : List Item} {base : List Frame} {fr fr' gr : Frame} {up gup : List Frame} {w w' : World} (hsw : Sw k fr up gr gup) (hf : FR X Fb wr ρ fr fr') (hw : WR X ρ w w') (m : Bool) (hB : Bot (fr :: up)) (hgo : fr.mode = .run ∨ fr.defers ≠ [] ∨ up ≠ []) :
  jh k base (stepG X.P m (G fr (up ++ base)) w) (stepG X.P m (G gr (gup ++ base)) w) := by
 have ret : ∀ {f : Frame} {t t' : List Item}, f.mode = .returning → FR X Fb wr ρ (wt f t) fr' → f.defers ≠ [] → jh k base (stepG X.P m (G (wt f t) base) w) (stepG X.P m (G (wt f t') base) w) := fun {f t t'} hm hf hd => by
  rw [zm _ _ _ _ _ (show (wt f t).mode = .returning from hm), zm _ _ _ _ _ (show (wt f t').mode = .returning from hm)]
  exact qu4 hf hm m hd
 cases hsw with
 | @ret f t t' hm =>
  refine ret hm hf ?_
  rcases hgo with h | h | h
  ·rw [show (wt f t).mode = .returning from hm] at h; cases h
  ·exact h
  ·exact absurd rfl h
 | @bot f t t' h =>
  rcases hf.run with hm | hm
  ·have hm : f.mode = .run := hm
   have hro : f.roundOf = none := hB (wt f t) (by simp)
   show jh k base (stepG X.P m (G (wt f t) base) w) (stepG X.P m (G (wt f t') base) w)
   rw [vv _ _ _ _ _ (show (wt f t).mode = .run from hm), vv _ _ _ _ _ (show (wt f t').mode = .run from hm)]
   exact q1c S h hf hw hm m hro
  ·have hm : f.mode = .returning := hm
   refine ret hm hf ?_
   rcases hgo with h | h | h
   ·rw [show (wt f t).mode = .returning from hm] at h; cases h
   ·exact h
   ·exact absurd rfl h
 | @above _ up f t t' h =>
  rw [List.append_assoc, List.append_assoc]
  have go : ∀ {jv : Frame} {up1 : List Frame} {w1 : World} {es : Array Event}, (∀ base, stepG X.P m (G fr (up ++ base)) w = .go (G jv (up1 ++ base)) w1 es) →
    jh k base (stepG X.P m (G fr (up ++ ([wt f t] ++ base))) w) (stepG X.P m (G fr (up ++ ([wt f t'] ++ base))) w) := fun {jv up1 w1 es} e =>
   .inl ⟨jv, up1 ++ [wt f t], jv, up1 ++ [wt f t'], w1, es, by rw [e, List.append_assoc], by rw [e, List.append_assoc], .sw (.above h)⟩
  by_cases hu : up = []
  ·subst hu
   rcases q2w S hf hw m with (⟨jv, up1, w1, es, e⟩ | e) | ⟨v, w1, es, e⟩
   ·exact go e
   ·exact .inr (e _)
   ·exact .inl ⟨_, [], _, [], w1, es, e _ _, e _ _, qql h v⟩
  ·have hgo : vw (fun base => stepG X.P m (G fr (up ++ base)) w) := by
    rcases hf.run with hm | hm
    ·have e : (fun base => stepG X.P m (G fr (up ++ base)) w) = fun base => stepG.exec X.P m true fr (up ++ base) none w := funext fun base => vv _ _ _ _ _ hm
     rw [e]
     exact qsa S hf hw hm m fun _ => hu
    ·have e : (fun base => stepG X.P m (G fr (up ++ base)) w) = fun base => unwind X.P m fr (up ++ base) none w := funext fun base => zm _ _ _ _ _ hm
     rw [e]
     exact qh6 S hf hm m (.inr hu)
   rcases hgo with ⟨jv, up1, w1, es, e⟩ | e
   ·exact go e
   ·exact .inr (e _)
end
end Go.Proofs.YtkpekiajdlolnabGreat.Sim
namespace Go.Proofs.YtkpekiajdlolnabGreat.Ph
section
open Go Go.Conc Go.ConcN Sim
section
variable {X : Cx} {Fb : FuncId → Bool} {SB : Blocks} {Q : Frame → List Frame → World → Prop}
theorem qzl {ρ : Rel} {wr : Bool} {sp : FuncId → Bool} (S : X.Set Fb wr sp) {cs : List Frame} {fr fr' : Frame} {w w' : World} (hf : FR X Fb wr ρ fr fr') (hw : WR X ρ w w') (m : Bool) (hne : fr.roundOf.isSome → cs ≠ []) (hgo : fr.mode = .run ∨ fr.defers ≠ [] ∨ cs ≠ []) :
  ShS (fun w => stepG X.P m (G fr cs) w) w := by
 rcases hf.run with hm | hm
 ·have e : (fun w => stepG X.P m (G fr cs) w) = fun w => stepG.exec X.P m true fr cs none w := funext fun w => vv _ _ _ _ _ hm
  rw [e]
  exact qsb S hf hw hm m hne
 ·have e : (fun w => stepG X.P m (G fr cs) w) = fun w => unwind X.P m fr cs none w := funext fun w => zm _ _ _ _ _ hm
  rw [e]
  exact qmk S hf hw hm m (hgo.resolve_left (by rw [hm]; intro h; cases h))
theorem qp4 (hPP : X.P' = X.P) (S : X.Set Fb true (fun _ => false)) (hQ : ∀ fr cs w, Q fr cs w → ∀ ch, fr.mode ≠ .panicking ch) {fr : Frame} {w : World} {ρ : Rel} {up base : List Frame} {wc : World}
  {nf : Tape → Frame} {nc : Tape → List Frame} {nw : Tape → World} {ne : Tape → Array Event} (hstep : ∀ τ : Tape, (∀ i q, i < w.drawn → τ i q = w.tape i q) → stepG X.P true (G fr (up ++ [c0])) { w with tape := τ } = .go (G (nf τ) (nc τ)) (nw τ) (ne τ))
  (hm : ∀ τ : Tape, (∀ i q, i < w.drawn → τ i q = w.tape i q) → qaw X.P Q (nf τ) (nc τ) (nw τ))
  (hf : FR X Fb true ρ fr fr) (hu : FsR X Fb true ρ up up) (hw : WN X ρ w wc) (hs : Same w wc) (hn : NB w) (hB : Bot (fr :: up)) :
  (fr.mode = .run ∨ fr.defers ≠ [] ∨ up ≠ []) ∧ ∀ d, ∃ jv up1 w1 ρ1 es, stepG X.P true (G fr (up ++ base)) (wc.at d) = .go (G jv (up1 ++ base)) (shf wc.tape (w.drawn, d) w1) es ∧
    (∃ τ, (Agree w τ) ∧ jv = nf τ ∧ up1 ++ [c0] = nc τ ∧ w1 = nw τ) ∧ FR X Fb true ρ1 jv jv ∧ FsR X Fb true ρ1 up1 up1 ∧ WR X ρ1 w1 (shf wc.tape (w.drawn, d) w1) ∧ ρ.le ρ1 ∧ NB w1 ∧ Bot (jv :: up1) ∧
    xh (rng ρ) (own X ρ) (wc.at d) (rng ρ1) (own X ρ1) (shf wc.tape (w.drawn, d) w1) es := by
 have hgo0 : fr.mode = .run ∨ fr.defers ≠ [] ∨ up ≠ [] := by
  refine Classical.byContradiction fun hgo => ?_
  have hup : up = [] := Classical.byContradiction fun h => hgo (.inr (.inr h))
  subst hup
  obtain ⟨τ0, ha0, k0⟩ := hw
  have hst : stepG X.P true (G fr [c0]) (re w τ0) = .go (G (nf τ0) (nc τ0)) (nw τ0) (ne τ0) := hstep τ0 ha0
  obtain ⟨h1, h2, h3⟩ := qeg S hf k0 hn (fun h => hgo (h.imp id .inl)) hst
  exact kg hQ (hm τ0 ha0) h1 h2 h3
 refine ⟨hgo0, fun d => ?_⟩
 let τ : Tape := fun i q => if i < w.drawn then w.tape i q else wc.tape (i - w.drawn + d) q
 have ha : Agree w τ := fun i q hi => if_pos hi
 have hfit : Fit wc.tape (w.drawn, d) (re w τ) := ⟨jy _, fun i q hi => by
  have hi' : ¬ i < w.drawn := Nat.not_lt.2 hi
  exact (if_neg hi').symm⟩
 have esh : shf wc.tape (w.drawn, d) (re w τ) = wc.at d := by
  have h1 := hs.heap; have h2 := hs.os; have h3 := hs.output
  obtain ⟨hp, tp, dr, os, out⟩ := wc
  simp only at h1 h2 h3
  subst h1; subst h2; subst h3
  simp [shf, re, World.at]
 have hw' : WR X ρ (re w τ) (wc.at d) := by
  obtain ⟨τ0, _, k⟩ := hw
  refine ⟨k.fn, k.inj, k.heap, fun i q => ?_, k.sh⟩
  have h1 : ¬ w.drawn + i < w.drawn := by omega
  have h2 : w.drawn + i - w.drawn + d = d + i := by omega
  have h3 : τ (w.drawn + i) q = wc.tape (w.drawn + i - w.drawn + d) q := if_neg h1
  rw [h2] at h3
  exact h3
 have hst : stepG X.P true (G fr (up ++ [c0])) (re w τ) = .go (G (nf τ) (nc τ)) (nw τ) (ne τ) := hstep τ ha
 by_cases hgo : fr.mode = .run ∨ fr.defers ≠ [] ∨ up ≠ []
 ·rcases qsx S hf hw' true hB hgo with ⟨jv, up1, w1, es, hba⟩ | hba
  ·have e1 : stepG X.P true (G fr (up ++ [c0])) (re w τ) = _ := hba [c0]
   rw [hst] at e1
   have e2 : stepG X.P true (G fr (up ++ base)) (re w τ) = _ := hba base
   have hne : fr.roundOf.isSome → up ++ base ≠ [] := fun h => by
    have hup : up ≠ [] := fun hu => by
     subst hu
     rw [hB fr (by simp)] at h; cases h
    simp [hup]
   have hne2 : fr.mode = .run ∨ fr.defers ≠ [] ∨ up ++ base ≠ [] := hgo.imp id (fun h => h.imp id fun h => by simp [h])
   obtain ⟨e3, q9l⟩ := qzl S (cs := up ++ base) hf hw' true hne hne2 _ _ _ e2 wc.tape (w.drawn, d) hfit
   rw [esh] at e3
   have e3 : stepG X.P true (G fr (up ++ base)) (wc.at d) = _ := e3
   have out := qhg S (base := base) (base' := base) hf hu hw' hn hB hgo true true
   rw [hPP, e3, e2] at out
   generalize hg : GStep.go (G jv (up1 ++ base)) w1 es = s at out
   cases out with
   | @nice f1 f1' u1 u1' ρ1 x1 x1' es1 q47 e h1 h2 h3 h4 h5 h6 h7 h8 =>
    have hgg : jv = f1 ∧ up1 ++ base = u1 ++ base ∧ w1 = x1 := by
     injection hg with a b c
     injection a with a1 a2
     exact ⟨a1, a2, b⟩
    obtain ⟨rfl, hu1, rfl⟩ := hgg
    obtain rfl := List.append_cancel_right hu1
    have hee : jv = f1' ∧ up1 ++ base = u1' ++ base ∧ shf wc.tape (w.drawn, d) w1 = x1' ∧ es = q47 := by
     injection e with a b c
     injection a with a1 a2
     exact ⟨a1, a2, b, c⟩
    obtain ⟨rfl, hu2, rfl, rfl⟩ := hee
    obtain rfl := List.append_cancel_right hu2
    have e1' : nf τ = jv ∧ nc τ = up1 ++ [c0] ∧ nw τ = w1 := by
     injection e1 with a b c
     injection a with a1 a2
     exact ⟨a1, a2, b⟩
    exact ⟨jv, up1, w1, ρ1, es, e3, ⟨τ, ha, e1'.1.symm, e1'.2.1.symm, e1'.2.2.symm⟩, h1, h2, h3, h4.le, h7, h8, qcs hw' h4 h3 h6⟩
   |special k1 k2 => cases k2
   | @panic f1 u1 ch x1 es1 h1 h2 =>
    exfalso
    have hgg : jv = { f1 with mode := .panicking ch } ∧ up1 ++ base = u1 ++ base ∧ w1 = x1 := by
     injection hg with a b c
     injection a with a1 a2
     exact ⟨a1, a2, b⟩
    obtain ⟨rfl, hu1, rfl⟩ := hgg
    obtain rfl := List.append_cancel_right hu1
    have e1' : nf τ = { f1 with mode := .panicking ch } ∧ nc τ = up1 ++ [c0] ∧ nw τ = w1 := by
     injection e1 with a b c
     injection a with a1 a2
     exact ⟨a1, a2, b⟩
    have hmu := hm τ ha
    rw [e1'.1, e1'.2.1, e1'.2.2] at hmu
    exact kg hQ hmu trivial ⟨_, rfl⟩ (.inl ⟨_, rfl, h1, h2⟩)
   |ended => cases hg
  ·exact absurd hst (hba _ _ _ _)
 ·exfalso
  have hup : up = [] := Classical.byContradiction fun h => hgo (.inr (.inr h))
  subst hup
  obtain ⟨h1, h2, h3⟩ := qeg S hf hw' hn (fun h => hgo (h.imp id .inl)) hst
  exact kg hQ (hm τ ha) h1 h2 h3
inductive qjj (n : Nat) : List Item → Prop
 |a (r : List Item) : qjj n (.code (.block n .skip) :: .inLoop (.block n .skip) :: r)
 |b (r : List Item) : qjj n (.code .skip :: .inBlock n :: .inLoop (.block n .skip) :: r)
 |c (r : List Item) : qjj n (.inBlock n :: .inLoop (.block n .skip) :: r)
 |d (r : List Item) : qjj n (.inLoop (.block n .skip) :: r)
def qgr (k : List Item) (Q : Frame → List Frame → World → Prop) : Prop := ∀ fr cs w, Q fr cs w → cs = [c0] ∧ (fr.mode = .returning ∨ (fr.mode = .run ∧ ∃ k', fr.todo = st k' ∧ (k' = k ∨ ∃ id, exitTo id k = some k')))
theorem qgr.mode {k : List Item} (h : qgr k Q) : ∀ fr cs w, Q fr cs w → ∀ ch, fr.mode ≠ .panicking ch := fun fr cs w hq ch e => by
 rcases (h _ _ _ hq).2 with h | ⟨h, _⟩ <;> rw [e] at h <;> cases h
theorem qq3 {k : List Item} (hQ : qgr k Q) {n : Nat} : ∀ {fr : Frame} {cs : List Frame} {w : World}, qaw X.P Q fr cs w → fr.mode = .run → qjj n fr.todo → False := by
 intro fr cs w h
 induction h with
 | @done fr cs w hq =>
  intro hm hl
  rcases (hQ _ _ _ hq).2 with h | ⟨_, k', h, _⟩
  ·rw [hm] at h; cases h
  ·rw [h, qew] at hl; cases hl
 | @step fr cs w nf nc nw ne hs _ ih =>
  intro hm hl
  have h1 : stepG X.P true (G fr cs) w = .go (G (nf w.tape) (nc w.tape)) (nw w.tape) (ne w.tape) := hs w.tape (fun _ _ _ => rfl)
  rw [vv _ _ _ _ _ hm] at h1
  have fin : ∀ {t : List Item}, stepG.exec X.P true true fr cs none w = .go (G (wt fr t) cs) w #[] → qjj n t → False := fun {t} e hl' => by
   rw [e] at h1
   injection h1 with h1 _ _
   injection h1 with h1 _
   refine ih w.tape (fun _ _ _ => rfl) ?_ ?_
   ·rw [← h1]; exact hm
   ·rw [← h1]; exact hl'
  obtain ⟨fn, tmps, todo, defers, mode, kind, ro⟩ := fr
  change qjj n todo at hl
  cases hl with
  |a r => exact fin rfl (.b r)
  |b r => exact fin rfl (.c r)
  |c r => exact fin rfl (.d r)
  |d r => exact fin rfl (.a r)
theorem ql7 {k : List Item} (hQ : qgr k Q) {f : Frame} {k' : List Item} {cs : List Frame} {w : World} (h : qaw X.P Q (wt f (st k')) cs w) (hm : f.mode = .run) : Q (wt f (st k')) cs w := by
 generalize hfr : wt f (st k') = fr at h
 cases h with
 |done hq => exact hq
 |step nf nc nw ne hs hn =>
  exfalso
  have h1 : stepG X.P true (G fr cs) w = .go (G (nf w.tape) (nc w.tape)) (nw w.tape) (ne w.tape) := hs w.tape (fun _ _ _ => rfl)
  subst hfr
  rw [vv _ _ _ _ _ (show (wt f (st k')).mode = .run from hm), qew] at h1
  have e : stepG.exec X.P true true (wt f (stop k'.length :: sf k')) cs none w = .go (G (wt f (.code (.block k'.length .skip) :: .inLoop (.block k'.length .skip) :: sf k')) cs) w #[] := rfl
  rw [e] at h1
  injection h1 with h1 _ _
  injection h1 with h1 _
  refine qq3 hQ (n := k'.length) (hn w.tape (fun _ _ _ => rfl)) ?_ ?_
  ·rw [← h1]; exact hm
  ·rw [← h1]; exact .a _
theorem qt5 {k : List Item} (hQ : qgr k Q) {f : Frame} {o : Oper} {cs : List Frame} {w : World} (h : qaw X.P Q (wt f (.inRegion #[o] [] :: st k)) cs w) (hm : f.mode = .run) : Q (wt f (st k)) cs w := by
 generalize hfr : wt f (.inRegion #[o] [] :: st k) = fr at h
 cases h with
 |done hq =>
  exfalso
  subst hfr
  rcases (hQ _ _ _ hq).2 with h | ⟨_, k', h, _⟩
  ·have h : f.mode = .returning := h
   rw [hm] at h; cases h
  ·have h : Item.inRegion #[o] [] :: st k = st k' := h
   rw [qew k'] at h; injection h with h _; cases h
 |step nf nc nw ne hs hn =>
  have h1 : stepG X.P true (G fr cs) w = .go (G (nf w.tape) (nc w.tape)) (nw w.tape) (ne w.tape) := hs w.tape (fun _ _ _ => rfl)
  subst hfr
  rw [vv _ _ _ _ _ (show (wt f (.inRegion #[o] [] :: st k)).mode = .run from hm)] at h1
  have e : stepG.exec X.P true true (wt f (.inRegion #[o] [] :: st k)) cs none w = .go (G (wt f (st k)) cs) w #[] := rfl
  rw [e] at h1
  injection h1 with h1 h2 _
  injection h1 with h1 h3
  have := hn w.tape (fun _ _ _ => rfl)
  rw [← h1, ← h2, ← h3] at this
  exact ql7 hQ this hm
end
section
variable {X : Cx} {Fb : FuncId → Bool} {SB : Blocks} {Q : Frame → List Frame → World → Prop}
inductive Way (k : List Item) : Frame → Frame → Prop
 |land {f : Frame} {k' : List Item} : f.mode = .run → (k' = k ∨ ∃ id, exitTo id k = some k') → Way k (wt f (st k')) (wt f k')
 |ret {f : Frame} {t t' : List Item} : f.mode = .returning → Way k (wt f t) (wt f t')
theorem quw {k k' : List Item} (h : k' = k ∨ ∃ id, exitTo id k = some k') : (st k').length ≤ (st k).length := by
 rcases h with rfl | ⟨id, h⟩
 ·exact jy _
 ·have : ∀ k, exitTo id k = some k' → (st k').length ≤ (sf k).length := by
   intro k
   induction k with
   |nil => intro h; cases h
   |cons a k ih =>
    cases a with
    |inBlock id' =>
     intro h
     have e : exitTo id (.inBlock id' :: k) = if id' == id then some k else exitTo id k := rfl
     rw [e] at h
     rw [sf]
     split at h
     ·cases h; simp
     ·have := ih h
      rw [qew k]; simp; omega
    |_ =>
     intro h
     rw [sf]
     ·exact ih h
     ·intro _ e; cases e
  have := this k h
  rw [qew k]; simp; omega
theorem qgr.out {k : List Item} (hQ : qgr k Q) {fr gr : Frame} {up gup : List Frame} {w : World} (hsw : Sw k fr up gr gup) (hq : Q fr (up ++ [c0]) w) : up = [] ∧ gup = [] ∧ Way k fr gr := by
 obtain ⟨hc, ho⟩ := hQ _ _ _ hq
 cases hsw with
 |ret hm => exact ⟨rfl, rfl, .ret hm⟩
 | @above up f t t' h =>
  have := congrArg List.length hc
  simp at this
 | @bot f t t' h =>
  rcases ho with ho | ⟨hm, k', ho, hk'⟩
  ·exact ⟨rfl, rfl, .ret ho⟩
  ·exfalso
   have ho : t = st k' := ho
   cases h with
   |code a u =>
    have h1 := congrArg List.length ho
    have h2 := quw hk'
    simp at h1
    omega
   |op _ _ _ =>
    rw [qew k'] at ho; injection ho with h _; cases h
theorem qmr {ρ : Rel} {fr : Frame} (hf : FR X Fb true ρ fr fr) : FR X Fb true ρ (wt fr []) (wt fr []) := ⟨hf.fn, hf.same, hf.tmps, .nil, hf.defers, hf.mode, hf.run, hf.kind, hf.kind', hf.round⟩
theorem WR.self {Fb : FuncId → Bool} {sp : FuncId → Bool} (S : X.Set Fb true sp) {ρ : Rel} {w wc : World} (hw : WN X ρ w wc) (hs : Same w wc) (d : Nat) : WR X ρ (wc.at d) (wc.at d) := by
 obtain ⟨τ0, _, k0⟩ := hw
 refine ⟨k0.fn, k0.inj, fun {a b} hab => ?_, fun _ _ => rfl, fun a ha => absurd ha (S.wrs rfl a)⟩
 obtain ⟨o, o', k1, k2, k3⟩ := k0.heap hab
 exact ⟨o, o', by show wc.heap[a]? = _; rw [hs.heap]; exact k1, k2, k3⟩
def qr3 (X : Cx) (Fb : FuncId → Bool) (SB : Blocks) (k : List Item) (Q : Frame → List Frame → World → Prop) (ρ : Rel) (gs : Array Goroutine) (base : List Frame) (wc : World) (sl : Option (Nat × Nat)) (t : Trace) : Prop :=
 ∃ (N : Nat) (gs' : Array Goroutine) (fr2 gr2 : Frame) (w2 wc2 : World) (sl' : Option (Nat × Nat)) (t' : Trace) (q' : Nat → Nat) (ρ2 : Rel),
    runNT X.P N (crowd gs wc sl) t = (.next (crowd gs' wc2 sl'), t') ∧ Q fr2 [c0] w2 ∧ Way k fr2 gr2 ∧ gs'.size = gs.size ∧ gs'[0]? = some (G gr2 base) ∧ Same w2 wc2 ∧ FR X Fb true ρ2 (wt fr2 []) (wt fr2 []) ∧ WN X ρ2 w2 wc2 ∧ ρ.le ρ2 ∧ NB w2 ∧
     Leavers X.P t' gs' q' ∧ vo SB wc2 gs'.size t' ∧ qbt SB (rng ρ2) (own X ρ2) wc2
theorem qn3 (hPP : X.P' = X.P) (S : X.Set Fb true (fun _ => false)) {k : List Item} (hQ : qgr k Q) : ∀ {fr : Frame} {cs : List Frame} {w : World}, qaw X.P Q fr cs w →
  ∀ {ρ : Rel} {gr : Frame} {up gup base : List Frame} {gs : Array Goroutine} {wc : World} {sl : Option (Nat × Nat)} {t : Trace} {q : Nat → Nat}, cs = up ++ [c0] → Sw k fr up gr gup → FR X Fb true ρ fr fr → FsR X Fb true ρ up up → WN X ρ w wc → Same w wc → NB w → Bot (fr :: up) →
   gs[0]? = some (G gr (gup ++ base)) → Leavers X.P t gs q → vo SB wc gs.size t → qbt SB (rng ρ) (own X ρ) wc →
   qr3 X Fb SB k Q ρ gs base wc sl t := by
 intro fr cs w h
 induction h with
 | @done fr cs w hq =>
  rintro ρ gr up gup base gs wc sl t q rfl hsw hf hu hw hs hn hB h0 hL hP hF
  obtain ⟨rfl, rfl, ho⟩ := hQ.out hsw hq
  exact ⟨0, gs, fr, gr, w, wc, sl, t, q, ρ, rfl, hq, ho, rfl, h0, hs, qmr hf, hw, ρ.le_refl, hn, hL, hP, hF⟩
 | @step fr cs w nf nc nw ne hstep hm ih =>
  rintro ρ gr up gup base gs wc sl t q rfl hsw hf hu hw hs hn hB h0 hL hP hF
  obtain ⟨hgo, key⟩ := qp4 hPP S hQ.mode hstep hm hf hu hw hs hn hB
  have key2 : ∀ d, ∃ jv up1 gr1 qf0 w1 ρ1 es, stepG X.P true (G gr (gup ++ base)) (wc.at d) = .go (G gr1 (qf0 ++ base)) (shf wc.tape (w.drawn, d) w1) es ∧ Aft k jv up1 gr1 qf0 ∧
    (∃ τ, (Agree w τ) ∧ jv = nf τ ∧ up1 ++ [c0] = nc τ ∧ w1 = nw τ) ∧ FR X Fb true ρ1 jv jv ∧ FsR X Fb true ρ1 up1 up1 ∧ WR X ρ1 w1 (shf wc.tape (w.drawn, d) w1) ∧ ρ.le ρ1 ∧ NB w1 ∧ Bot (jv :: up1) ∧
    xh (rng ρ) (own X ρ) (wc.at d) (rng ρ1) (own X ρ1) (shf wc.tape (w.drawn, d) w1) es := fun d => by
   obtain ⟨jv, up1, w1, ρ1, es, e, hτ, h1, h2, h3, hle, h7, h8, ok⟩ := key d
   have hwz := WR.self S hw hs d
   rcases q2y S (base := base) hsw hf hwz true hB hgo with ⟨fr2, up2, gr2, gup2, w2, es2, e1, e2, ha⟩ | hno
   ·rw [e] at e1
    injection e1 with a1 a2 a3
    injection a1 with a1 a4
    obtain rfl := a1
    obtain rfl := List.append_cancel_right a4
    obtain rfl := a2
    obtain rfl := a3
    exact ⟨jv, up1, gr2, gup2, w1, ρ1, es, e2, ha, hτ, h1, h2, h3, hle, h7, h8, ok⟩
   ·exact absurd e (hno _ _ _)
  have hpos : 0 < gs.size := (zx h0).1
  obtain ⟨N, gs1, a1, d, wc1, es, sl1, t1, q1, hr, q9z, hz, h01, hL1, hP1, _⟩ := yx (P := X.P) (SB := SB) (sl := sl) h0 rfl hL hP fun d => by
   obtain ⟨jv, up1, gr1, qf0, w1, ρ1, es, e, _, _, _, _, _, _, _, _, ok⟩ := key2 d
   have hFd : qbt SB (rng ρ) (own X ρ) (wc.at d) := ⟨hF.apart, hF.low, hF.own, hF.foot⟩
   have hF' := hFd.step ok
   exact ⟨_, _, es, e, ok.size, fun x hx => ⟨qm1 (ok.ev x hx) hF'.apart hF'.foot, fun y hy => (qm0 (ok.ev x hx) hy).1⟩⟩
  obtain ⟨jv, up1, gr1, qf0, w1, ρ1, es', e, ha, ⟨τ, hag, rfl, hnc, rfl⟩, h1, h2, h3, hle, h7, h8, ok⟩ := key2 d
  rw [e] at q9z
  have hgg : G gr1 (qf0 ++ base) = a1 ∧ shf wc.tape (w.drawn, d) (nw τ) = wc1 ∧ es' = es := by
   injection q9z with a b c
   exact ⟨a, b, c⟩
  obtain ⟨rfl, rfl, rfl⟩ := hgg
  have hFd : qbt SB (rng ρ) (own X ρ) (wc.at d) := ⟨hF.apart, hF.low, hF.own, hF.foot⟩
  have hF1 := hFd.step ok
  have hsame : Same (nw τ) (shf wc.tape (w.drawn, d) (nw τ)) := ⟨rfl, rfl, rfl⟩
  have fin : ∀ {gr1 : Frame} {qf0 : List Frame}, gs1[0]? = some (G gr1 (qf0 ++ base)) → Sw k (nf τ) up1 gr1 qf0 → qr3 X Fb SB k Q ρ gs base wc sl t := fun {gr1 qf0} h01 hs1 => by
   obtain ⟨N', gs', fr2, gr2, w2, wc2, sl', t', q', ρ2, hr', hq, ho, hz', h0', hs', g1, g3, g4, g5, hL', hP', hF'⟩ := ih τ hag (sl := sl1) hnc.symm hs1 h1 h2 (WN.of h3) hsame h7 h8 h01 hL1 hP1 hF1
   exact ⟨N + N', gs', fr2, gr2, w2, wc2, sl', t', q', ρ2, runNT_trans _ hr hr', hq, ho, hz'.trans hz, h0', hs', g1, g3, Rel.le_trans hle g4, g5, hL', hP', hF'⟩
  have hmu := hm τ hag
  rw [← hnc] at hmu
  generalize nf τ = jv at *
  cases ha with
  |sw hs1 => exact fin h01 hs1
  |panic hp => rcases h1.run with h | h <;> rw [hp] at h <;> cases h
  |ld hl =>
   cases hl with
   | @land f k' hk' =>
    rcases h1.run with hmo | hmo
    ·have hq := ql7 hQ hmu hmo
     exact ⟨N, gs1, wt f (st k'), wt f k', nw τ, _, sl1, t1, q1, ρ1, hr, (by have := (hQ _ _ _ hq).1; rw [this] at hq; exact hq), .land hmo hk', hz, h01, hsame, qmr h1, WN.of h3, hle, h7, hL1, hP1, hF1⟩
    ·exact fin (qf0 := []) h01 (.ret (f := f) hmo)
   | @late f o =>
    rcases h1.run with hmo | hmo
    ·have hq := qt5 hQ hmu hmo
     exact ⟨N, gs1, wt f (st k), wt f k, nw τ, _, sl1, t1, q1, ρ1, hr, (by have := (hQ _ _ _ hq).1; rw [this] at hq; exact hq), .land hmo (.inl rfl), hz, h01, hsame, (show FR X Fb true ρ1 (wt f []) (wt f []) from qmr (fr := wt f (.inRegion #[o] [] :: st k)) h1), WN.of h3, hle, h7, hL1, hP1, hF1⟩
    ·exact fin (qf0 := []) h01 (.ret (f := f) hmo)
end
structure Co (X : Cx) (Fb bl : FuncId → Bool) (SB : Blocks) (ρ : Rel) (gs : Array Goroutine) (fr : Frame) (cs : List Frame) (w : World) (t : Trace) (q : Nat → Nat) : Prop where
 g0 : gs[0]? = some (G fr cs)
 leavers : Leavers X.P t gs q
 past : vo SB w gs.size t
 foot : qbt SB (rng ρ) (own X ρ) w
 fr : bl fr.fn = false → FR X Fb true ρ (wt fr []) (wt fr [])
 cs : ∀ c ∈ cs, bl c.fn = false → FR X Fb true ρ (wt c []) (wt c [])
 wr : WR X ρ w w
 nb : NB w
def Comes (X : Cx) (Fb bl : FuncId → Bool) (SB : Blocks) (ρ : Rel) (gs : Array Goroutine) (w : World) (sl : Option (Nat × Nat)) (t : Trace) (cs : List Frame) (Z : Frame → World → Prop) : Prop :=
 ∃ (gs' : Array Goroutine) (fr' : Frame) (w' : World) (sl' : Option (Nat × Nat)) (t' : Trace) (q' : Nat → Nat) (ρ' : Rel), Runs X.P gs w sl t gs' w' sl' t' ∧ gs'.size = gs.size ∧ ρ.le ρ' ∧ Z fr' w' ∧ Co X Fb bl SB ρ' gs' fr' cs w' t' q'
section
variable {X : Cx} {Fb bl : FuncId → Bool} {SB : Blocks}
theorem qm4 {ρ : Rel} {f : Frame} {t : List Item} (h : FR X Fb true ρ (wt f []) (wt f [])) (ht : IsR X Fb true ρ t t) : FR X Fb true ρ (wt f t) (wt f t) :=
 ⟨h.fn, h.same, h.tmps, ht, h.defers, h.mode, h.run, h.kind, h.kind', h.round⟩
theorem qt2 {b : Frame} {k : List Item} {Q : Exit → Act → World → Prop} : qgr k (Tgt b (st k) Q) := by
 rintro fr cs w ⟨hc, e, a, _, hl⟩
 refine ⟨hc, ?_⟩
 cases e with
 |normal => obtain rfl := hl; exact .inr ⟨rfl, k, rfl, .inl rfl⟩
 |exit id =>
  obtain ⟨k', h1, rfl⟩ := hl
  rw [qfn] at h1
  obtain ⟨k1, h2, rfl⟩ := Option.map_eq_some_iff.1 h1
  exact .inr ⟨rfl, k1, rfl, .inr ⟨id, h2⟩⟩
 |ret => obtain ⟨todo, rfl⟩ := hl; exact .inl rfl
 |_ => exact hl.elim
theorem qmj {k k' : List Item} (h : k' = k ∨ ∃ id, exitTo id k = some k') : k' <:+ k := by
 rcases h with rfl | ⟨id, h⟩
 ·exact List.suffix_refl _
 ·exact qf7 h
theorem qu7 {b : Frame} {k : List Item} {fr gr : Frame} {e : Exit} {a : Act} (h : Way k fr gr) (hl : qh9 b (st k) e a fr) : qh9 b k e a gr := by
 cases h with
 | @land f k' hm hk =>
  have key : ∀ k1, (k1 = k ∨ ∃ id, exitTo id k = some k1) → wt f (st k') = b.at a (st k1) → wt f k' = b.at a k1 := fun k1 h1 e => by
   have e1 : st k' = st k1 := congrArg Frame.todo e
   have e2 := q6r (qmj hk) (qmj h1) e1
   subst e2
   exact congrArg (wt · k') e
  cases e with
  |normal => exact key k (.inl rfl) hl
  |exit id =>
   obtain ⟨k2, h1, h2⟩ := hl
   rw [qfn] at h1
   obtain ⟨k1, h3, rfl⟩ := Option.map_eq_some_iff.1 h1
   exact ⟨k1, h3, key k1 (.inr ⟨id, h3⟩) h2⟩
  |ret =>
   obtain ⟨todo, hl⟩ := hl
   have : f.mode = .returning := congrArg Frame.mode hl
   rw [hm] at this; cases this
  |_ => exact hl.elim
 | @ret f t t' hm =>
  cases e with
  |normal =>
   have : f.mode = .run := congrArg Frame.mode hl
   rw [hm] at this; cases this
  |exit id =>
   obtain ⟨k2, h1, h2⟩ := hl
   have : f.mode = .run := congrArg Frame.mode h2
   rw [hm] at this; cases this
  |ret =>
   obtain ⟨todo, hl⟩ := hl
   exact ⟨t', congrArg (wt · t') hl⟩
  |_ => exact hl.elim
theorem Co.carry (hPP : X.P' = X.P) (S : X.Set Fb true (fun _ => false)) {ρ : Rel} {gs : Array Goroutine} {b fr gr : Frame} {k : List Item} {cs : List Frame} {w : World} {sl : Option (Nat × Nat)} {t : Trace} {q : Nat → Nat} {Q : Exit → Act → World → Prop}
  (h : Co X Fb bl SB ρ gs gr cs w t q) (hsw : Sw k fr [] gr []) (hf : FR X Fb true ρ fr fr) (hro : fr.roundOf = none) (hQS : ∀ e a w wc, Same w wc → Q e a w → Q e a wc)
  (hm : qaw X.P (Tgt b (st k) Q) fr [c0] w) :
  Comes X Fb bl SB ρ gs w sl t cs (fun fr' w' => ∃ e a', Q e a' w' ∧ qh9 b k e a' fr') := by
 have hB : Bot [fr] := by
  intro f hf
  simp at hf
  subst hf
  exact hro
 obtain ⟨N, gs', fr2, gr2, w2, wc2, sl', t', q', ρ2, hr, ⟨_, e, a', hq, hl⟩, ho, hz, h0', hs, g1, g3, g4, g5, hL', hP', hF'⟩ := qn3 hPP S qt2 hm (up := []) (gup := []) (base := cs) rfl hsw hf .nil (WN.of h.wr) (Same.refl w) h.nb hB h.g0 h.leavers h.past h.foot
 refine ⟨gs', gr2, wc2, sl', t', q', ρ2, ⟨N, hr⟩, hz, g4, ⟨e, a', hQS _ _ _ _ hs hq, qu7 ho hl⟩, ⟨h0', hL', hP', hF', ?_, fun c hc hb => (h.cs c hc hb).mono g4, WR.self S g3 hs wc2.drawn, ?_⟩⟩
 ·intro _; cases ho <;> exact g1
 ·exact g5
theorem Co.code (hPP : X.P' = X.P) (S : X.Set Fb true (fun _ => false)) {ρ : Rel} {gs : Array Goroutine} {b : Frame} {a : Act} {c : Code} {k : List Item} {cs : List Frame} {w : World} {sl : Option (Nat × Nat)} {t : Trace} {q : Nat → Nat} {Q : Exit → Act → World → Prop}
  (h : Co X Fb bl SB ρ gs (b.at a (.code c :: k)) cs w t q) (hbl : bl b.fn = false) (hc : codeOk X.P X.P Fb true c = true) (hpl : Plain k Q) (hQS : ∀ e a w wc, Same w wc → Q e a w → Q e a wc)
  (hp : ∀ τ, Agree w τ → c.wp X.P Q a (re w τ)) :
  Comes X Fb bl SB ρ gs w sl t cs (fun fr' w' => ∃ e a', Q e a' w' ∧ qh9 b k e a' fr') := by
 have hf : FR X Fb true ρ (b.at a (.code c :: st k)) (b.at a (.code c :: st k)) := qm4 (f := b.at a []) (h.fr hbl) (.cons (.code (by rw [hPP]; exact hc)) (IsR.st X Fb true ρ k))
 have hB : Bot [b.at a (.code c :: st k)] := by
  intro f hf
  simp at hf
  subst hf
  rfl
 have hinv : Inv X Fb true (b.at a (.code c :: st k)) [c0] w := ⟨ρ, _, [], [], w, rfl, hf, .nil, h.wr, h.nb, hB⟩
 have hpl' : Plain (st k) Q := fun e a w hq => by
  have := hpl e a w hq
  cases e with
  |exit id => obtain ⟨k', e⟩ := this; exact ⟨st k', by rw [qfn, e]; rfl⟩
  |_ => exact this
 have hm := qdo S hinv hpl' hQS (b := b) (k := st k) (fun τ ha => hp τ ha b (st k) [c0])
 exact h.carry hPP S (fr := b.at a (.code c :: st k)) (.bot (f := b.at a []) (.code (.code c) [])) hf rfl hQS hm
theorem qt6 {P : Program} {Q : Frame → List Frame → World → Prop} {fr jv : Frame} {cs : List Frame} {w : World} (h : qaw P Q fr cs w) (hq : ¬ Q fr cs w) (hs : stepG P true (G fr cs) w = .go (G jv cs) w #[]) : qaw P Q jv cs w := by
 cases h with
 |done h => exact absurd h hq
 |step nf nc nw ne h1 h2 =>
  have e : stepG P true (G fr cs) w = .go (G (nf w.tape) (nc w.tape)) (nw w.tape) (ne w.tape) := h1 w.tape (fun _ _ _ => rfl)
  rw [hs] at e
  injection e with e1 e2 _
  injection e1 with e1 e3
  have := h2 w.tape (fun _ _ _ => rfl)
  rw [← e1, ← e2, ← e3] at this
  exact this
theorem Co.op (hPP : X.P' = X.P) (S : X.Set Fb true (fun _ => false)) {ρ : Rel} {gs : Array Goroutine} {b : Frame} {a : Act} {ops : Array Oper} {i : Nat} {td : List Nat} {o : Oper} {k : List Item} {cs : List Frame} {w : World} {sl : Option (Nat × Nat)} {t : Trace} {q : Nat → Nat} {Q : Act → World → Prop}
  (h : Co X Fb bl SB ρ gs (b.at a (.inRegion ops (i :: td) :: k)) cs w t q) (hbl : bl b.fn = false) (ho : ops[i]? = some o) (hok : qa0 X.P X.P Fb true (bare o) = true) (hwant : Region.wanted o (yielded ops a.tmps) = true) (hQS : ∀ a w wc, Same w wc → Q a w → Q a wc) {id : Nat}
  (hp : ∀ τ, Agree w τ → (Code.region id #[bare o] false).wp X.P (fun e a' w' => e = .normal ∧ Q a' w') a (re w τ)) :
  Comes X Fb bl SB ρ gs w sl t cs (fun fr' w' => ∃ a', Q a' w' ∧ fr' = b.at a' (.inRegion ops td :: k)) := by
 let K : List Item := .inRegion ops td :: k
 have hok' : qa0 X.P X.P' Fb true (bare o) = true := by rw [hPP]; exact hok
 have hall : (#[bare o] : Array Oper).toList.all (qa0 X.P X.P' Fb true) = true := by simp [hok']
 have hf0 : FR X Fb true ρ (b.at a (.code (.region id #[bare o] false) :: st K)) (b.at a (.code (.region id #[bare o] false) :: st K)) := qm4 (f := b.at a []) (h.fr hbl) (.cons (.code hall) (IsR.st X Fb true ρ K))
 have hf1 : FR X Fb true ρ (b.at a (.inRegion #[bare o] [0] :: st K)) (b.at a (.inRegion #[bare o] [0] :: st K)) := qm4 (f := b.at a []) (h.fr hbl) (.cons (.inRegion [0] hall) (IsR.st X Fb true ρ K))
 have hB : Bot [b.at a (.code (.region id #[bare o] false) :: st K)] := by
  intro f hf
  simp at hf
  subst hf
  rfl
 let Q' : Exit → Act → World → Prop := fun e a' w' => e = .normal ∧ Q a' w'
 have hQ' : ∀ e a w wc, Same w wc → Q' e a w → Q' e a wc := fun e a w wc hs h => ⟨h.1, hQS _ _ _ hs h.2⟩
 have hpl' : Plain (st K) Q' := by rintro e a w ⟨rfl, _⟩; trivial
 have hinv : Inv X Fb true (b.at a (.code (.region id #[bare o] false) :: st K)) [c0] w := ⟨ρ, _, [], [], w, rfl, hf0, .nil, h.wr, h.nb, hB⟩
 have hm := qdo S hinv hpl' hQ' (b := b) (k := st K) (fun τ ha => hp τ ha b (st K) [c0])
 have hm1 : qaw X.P (Tgt b (st K) Q') (b.at a (.inRegion #[bare o] [0] :: st K)) [c0] w := by
  refine qt6 hm ?_ rfl
  rintro ⟨_, e, a', ⟨rfl, _⟩, hl⟩
  have := congrArg Frame.todo (show b.at a (.code (.region id #[bare o] false) :: st K) = b.at a' (st K) from hl)
  have h1 := congrArg List.length this
  simp [Frame.at] at h1
 obtain ⟨gs', fr', w', sl', t', q', ρ', h1, h2, h3, ⟨e, a', ⟨rfl, hq⟩, hl⟩, h4⟩ := h.carry hPP S (k := K) (sl := sl) (fr := b.at a (.inRegion #[bare o] [0] :: st K)) (.bot (f := b.at a []) (.op rfl ho hwant)) hf1 rfl hQ' hm1
 exact ⟨gs', fr', w', sl', t', q', ρ', h1, h2, h3, ⟨a', hq, hl⟩, h4⟩
inductive Sil (P : Program) : Frame → List Frame → Frame → List Frame → Prop
 |refl (fr : Frame) (cs : List Frame) : Sil P fr cs fr cs
 |step {fr jv fr2 : Frame} {cs cs1 cs2 : List Frame} : (∀ w, stepG P true (G fr cs) w = .go (G jv cs1) w #[]) → Sil P jv cs1 fr2 cs2 → Sil P fr cs fr2 cs2
theorem Sil.runs {P : Program} {fr fr' : Frame} {cs cs' : List Frame} (hs : Sil P fr cs fr' cs') : ∀ {gs : Array Goroutine} {w : World} {sl : Option (Nat × Nat)} {t : Trace} {q : Nat → Nat}, gs[0]? = some (G fr cs) → Leavers P t gs q → vo SB w gs.size t →
  ∃ (gs' : Array Goroutine) (d : Nat) (sl' : Option (Nat × Nat)) (t' : Trace) (q' : Nat → Nat), Runs P gs w sl t gs' (w.at d) sl' t' ∧ gs'.size = gs.size ∧ gs'[0]? = some (G fr' cs') ∧ Leavers P t' gs' q' ∧ vo SB (w.at d) gs'.size t' := by
 induction hs with
 |refl fr cs => exact fun {gs w sl t q} h0 hL hP => ⟨gs, w.drawn, sl, t, q, ⟨0, rfl⟩, rfl, h0, hL, hP⟩
 |step h1 _ ih =>
  intro gs w sl t q h0 hL hP
  obtain ⟨N, gs1, a1, d, w1, es, sl1, t1, q1, hr, hgo, hz, h01, hL1, hP1, _⟩ := yx (P := P) (SB := SB) (sl := sl) h0 rfl hL hP fun d => ⟨_, _, _, h1 _, jy _, by simp⟩
  rw [h1] at hgo
  injection hgo with e1 e2 e3
  subst e1; subst e2
  obtain ⟨gs2, d2, sl2, t2, q2, hr2, hz2, h02, hL2, hP2⟩ := ih (sl := sl1) h01 hL1 hP1
  exact ⟨gs2, d2, sl2, t2, q2, Runs.trans ⟨N, hr⟩ hr2, hz2.trans hz, h02, hL2, hP2⟩
theorem Co.sil {ρ : Rel} {gs : Array Goroutine} {fr fr' : Frame} {cs cs' : List Frame} {w : World} {sl : Option (Nat × Nat)} {t : Trace} {q : Nat → Nat} (h : Co X Fb bl SB ρ gs fr cs w t q) (hs : Sil X.P fr cs fr' cs')
  (hf : bl fr'.fn = false → FR X Fb true ρ (wt fr' []) (wt fr' [])) (hc : ∀ c ∈ cs', bl c.fn = false → FR X Fb true ρ (wt c []) (wt c [])) :
  ∃ (gs' : Array Goroutine) (d : Nat) (sl' : Option (Nat × Nat)) (t' : Trace) (q' : Nat → Nat), Runs X.P gs w sl t gs' (w.at d) sl' t' ∧ gs'.size = gs.size ∧ Co X Fb bl SB ρ gs' fr' cs' (w.at d) t' q' := by
 obtain ⟨gs', d, sl', t', q', h1, h2, h3, h4, h5⟩ := hs.runs (SB := SB) (sl := sl) h.g0 h.leavers h.past
 exact ⟨gs', d, sl', t', q', h1, h2, ⟨h3, h4, h5, ⟨h.foot.apart, h.foot.low, h.foot.own, h.foot.foot⟩, hf, hc, ⟨h.wr.fn, h.wr.inj, h.wr.heap, fun _ _ => rfl, h.wr.sh⟩, h.nb⟩⟩
end
def fbL : List Nat := [10, 12, 14, 16, 17, 18, 19, 22, 23, 24, 25, 26, 28, 29, 30, 31, 32, 33, 34, 35, 36, 37, 38, 39, 40, 41, 42, 43, 44, 45, 46, 47, 48, 49, 50, 51, 52, 56, 58, 59, 60, 61, 62, 63, 64, 65, 66, 67, 68, 69, 70, 71, 72, 73, 74, 75, 76, 90, 91, 97, 98, 99, 100, 101, 102, 103, 104, 105, 106, 107, 108, 109, 110, 111, 112, 113, 114, 115, 116, 117, 122, 123, 124, 126, 127, 128, 129, 130, 131, 132, 133, 134, 135, 136, 137, 138, 139, 140, 141, 142, 143, 144, 145, 146, 147, 148, 149, 150, 151, 152, 153, 154, 155, 156, 157, 158, 159]
def q84 : List Nat := [56, 90, 91, 122, 123, 124, 135, 136, 137, 142, 143, 144, 145, 146, 147, 148, 149, 150, 151, 152, 153, 154, 155, 156, 157, 158, 159]
def fb (f : FuncId) : Bool := fbL.contains f
def fbP (f : FuncId) : Bool := q84.contains f
noncomputable def okf (P : Program) (b : FuncId → Bool) (wr : Bool) (f : Nat) : Bool := match P.funcs[f]? with
 |some fn => match fn.body with
  |some c => codeOk P P b wr c && !(fn.name == "runtime.NumGoroutine")
  |none => false
 |none => false
theorem qog {P : Program} {b : FuncId → Bool} {l : List Nat} {wr : Bool} (h : l.all (okf P b wr) = true) (f : FuncId) (hf : l.contains f = true) :
  ∃ fn c, P.funcs[f]? = some fn ∧ fn.body = some c ∧ codeOk P P b wr c = true ∧ (fn.name == "runtime.NumGoroutine") = false := by
 rw [List.all_eq_true] at h
 have := h f (List.contains_iff_mem.1 hf)
 unfold okf at this
 cases h1 : P.funcs[f]? with
 |none => rw [h1] at this; cases this
 |some fn =>
  rw [h1] at this
  cases h2 : fn.body with
  |none => simp only [h2] at this; cases this
  |some c =>
   simp only [h2, Bool.and_eq_true, Bool.not_eq_true'] at this
   exact ⟨fn, c, rfl, h2, this.1, this.2⟩
theorem qqk : fbL.all (okf Tryz.prog fb true) = true := by kernel_rfl
theorem qsc : q84.all (okf Tryz.prog fbP false) = true := by kernel_rfl
def blG (f : FuncId) : Bool := [3, 4, 5, 6, 7, 8, 10, 11].contains f
noncomputable def XG : Cx := ⟨Tryz.prog, Tryz.prog, fun f => fb f = true, fun c => codeOk Tryz.prog Tryz.prog fb true c = true, fun _ => False⟩
noncomputable def XW (Sh : Nat → Prop) : Cx := ⟨Tryz.prog, Tryz.prog, fun f => fbP f = true, fun c => codeOk Tryz.prog Tryz.prog fbP false c = true, Sh⟩
theorem qkd : Tryz.prog.globals.size = 0 := by kernel_rfl
theorem okXG : XG.Ok fb := ⟨rfl, fun _ h => h, qkd, fun _ _ _ => rfl, fun _ _ _ => rfl, fun f hf => by
 obtain ⟨fn, c, h1, h2, _, h4⟩ := qog qqk f hf
 exact ⟨fn, fn, h1, h1, by rw [h2]; rfl, by rw [h2]; rfl, h4, h4⟩⟩
theorem qga : XG.Set fb true (fun _ => false) := ⟨okXG, fun _ => Iff.rfl, fun _ _ h => h, fun f hf _ => by
 obtain ⟨fn, c, h1, h2, h3, _⟩ := qog qqk f hf
 exact ⟨fn, c, h1, h1, h2, h3⟩⟩
theorem okXW (Sh : Nat → Prop) : (XW Sh).Ok fbP := ⟨rfl, fun _ h => h, qkd, fun _ _ _ => rfl, fun _ _ _ => rfl, fun f hf => by
 obtain ⟨fn, c, h1, h2, _, h4⟩ := qog qsc f hf
 exact ⟨fn, fn, h1, h1, by rw [h2]; rfl, by rw [h2]; rfl, h4, h4⟩⟩
theorem jbq (Sh : Nat → Prop) : (XW Sh).Set fbP false (fun _ => false) := ⟨okXW Sh, fun _ => Iff.rfl, (fun h => by cases h), fun f hf _ => by
 obtain ⟨fn, c, h1, h2, h3, _⟩ := qog qsc f hf
 exact ⟨fn, c, h1, h1, h2, h3⟩⟩
structure FOk (F O : Blocks) (w : World) : Prop where
 low : ∀ b, F b → b < w.heap.size
 own : ∀ b, O b → F b
theorem FOk.ext {F O : Blocks} {w w1 : World} (h : FOk F O w) (e : Ext F w w1) : FOk F O w1 := ⟨fun b hb => xll (h.low b hb) e.size, h.own⟩
theorem FOk.quiet {F O : Blocks} {w : World} (h : FOk F O w) (d : Nat) {es : Array Event} (he : ∀ e ∈ es, EvF F O e) : xh F O w F O { w with drawn := w.drawn + d } es :=
 ⟨fun _ h => h, fun _ h => h, fun _ h => .inl h, fun _ h => .inl h, h.own, fun _ _ _ => rfl, jy _, h.low, ⟨d, rfl⟩, rfl, rfl, rfl, he, id⟩
section
variable {P : Program} {main : Bool} {Stop : Blocks → Blocks → Goroutine → World → Prop} {F O : Blocks} {g g' : Goroutine} {w : World}
theorem WG.ctl (hr : g.status = .running) (hF : FOk F O w) (hs : ∀ w1, stepG P main g w1 = .go g' w1 #[]) (k : WG P main Stop F O g' w) : WG P main Stop F O g w :=
 WG.step hr fun w1 e => ⟨F, O, g', w1, #[], hs w1, (hF.ext e).quiet 0 (by simp), k.ext e⟩
theorem WG.quiet (hr : g.status = .running) (hF : FOk F O w) (hs : ∀ w1, Ext F w w1 → ∃ g' d es, stepG P main g w1 = .go g' { w1 with drawn := w1.drawn + d } es ∧ (∀ e ∈ es, EvF F O e) ∧ WG P main Stop F O g' { w1 with drawn := w1.drawn + d }) : WG P main Stop F O g w :=
 WG.step hr fun w1 e => by
  obtain ⟨g', d, es, h1, h2, h3⟩ := hs w1 e
  exact ⟨F, O, g', _, es, h1, (hF.ext e).quiet d h2, h3⟩
variable {b : Frame} {a : Act} {k : List Item} {cs : List Frame} {ops : Array Oper} {i : Nat} {rest : List Nat} {o : Oper}
theorem WG.value (v : Value) (hF : FOk F O w) (ho : ops[i]? = some o) (hw : Region.wanted o (yielded ops a.tmps) = true) (hk : b.kind ≠ .early)
  (hr : ∀ w1, Ext F w w1 → (execOp a.eval o).run P w1 = .ok (.value v) w1 ∧ ∀ e ∈ (execOp a.eval o).events P w1 #[], EvF F O e)
  (n : WG P main Stop F O (G (b.at (a.put o.dst v) (.inRegion ops rest :: k)) cs) w) : WG P main Stop F O (G (b.at a (.inRegion ops (i :: rest) :: k)) cs) w :=
 WG.quiet rfl hF fun w1 e => ⟨_, 0, _, stepG_value ho hw hk (hr w1 e).1, fun e' he => (hr w1 e).2 e' (mem_listed he), n.ext e⟩
theorem qdy {F O : Blocks} {ad : Addr} (h : F ad.block) : EvF F O ⟨.cell ad, false, false⟩ := ⟨rfl, h, fun h => by cases h⟩
end
noncomputable def zk : Array Oper := match Tryz.f54.body with
 |some (.seq _ (.region _ ops _)) => ops
 |_ => #[]
theorem vz {w w1 : World} {a : Addr} (h : w1.heap[a.block]? = w.heap[a.block]?) : w1.cell? a = w.cell? a := by unfold World.cell?; rw [h]
structure qp0 (F : Blocks) (kb cb fb tb cl i : Nat) (dp s t : Value) (w : World) : Prop where
 k : w.cell? ⟨kb, 0, none⟩ = some (.int .i64 i)
 c : w.cell? ⟨cb, 0, none⟩ = some (.pointer (some ⟨cl, 0, none⟩))
 f : w.cell? ⟨fb, 0, none⟩ = some s
 t : w.cell? ⟨tb, 0, none⟩ = some t
 d : w.cell? ⟨cl, 1 + i * 3 + 1, none⟩ = some dp
 Fk : F kb
 Fc : F cb
 Ff : F fb
 Ft : F tb
 Fd : F cl
theorem qp0.ext {F : Blocks} {kb cb fb tb cl i : Nat} {dp s t : Value} {w w1 : World} (h : qp0 F kb cb fb tb cl i dp s t w) (e : Ext F w w1) : qp0 F kb cb fb tb cl i dp s t w1 :=
 ⟨(vz (e.keep _ h.Fk)).trans h.k, (vz (e.keep _ h.Fc)).trans h.c, (vz (e.keep _ h.Ff)).trans h.f, (vz (e.keep _ h.Ft)).trans h.t, (vz (e.keep _ h.Fd)).trans h.d, h.Fk, h.Fc, h.Ff, h.Ft, h.Fd⟩
section
variable {kb cb fb tb cl i : Nat} {dp s t : Value}
def qdq (cl i : Nat) (dp s t : Value) : Nat → Value
 |0 => .int .i64 i
 |1 => .pointer (some ⟨cl, 0, none⟩)
 |2 => .int .i64 i
 |3 => .pointer (some ⟨cl, 0, none⟩)
 |4 => .pointer (some ⟨cl, 1, none⟩)
 |5 => .pointer (some ⟨cl, 1 + i * 3, none⟩)
 |6 => .pointer (some ⟨cl, 1 + i * 3 + 1, none⟩)
 |7 => dp
 |8 => s
 |_ => t
structure WkT (kb cb fb tb cl i C Wg : Nat) (dp s t : Value) (listed : Array Bool) (T : Array Value) : Prop where
 size : T.size = 18
 t1 : T.getD 1 undef = .pointer (some ⟨cb, 0, none⟩)
 t2 : T.getD 2 undef = .pointer (some ⟨kb, 0, none⟩)
 t3 : T.getD 3 undef = .pointer (some ⟨fb, 0, none⟩)
 t4 : T.getD 4 undef = .pointer (some ⟨tb, 0, none⟩)
 t5 : T.getD 5 undef = .pointer (some ⟨C, 0, none⟩)
 val : ∀ j, j < 10 → listed.getD j false = true → T.getD (6 + j) undef = qdq cl i dp s t j
variable {C Wg : Nat} {listed : Array Bool} {T : Array Value} {F O : Blocks} {w : World} {ds : List Deferred}
theorem yo {j : Nat} (h : j ∈ Region.ready .any zk listed) {o : Oper} (ho : zk[j]? = some o) (q : Nat) (e : Edge) (he : o.after[q]? = some e) (hb : Region.binds .any e = true) : listed.getD e.on false = true := by
 obtain ⟨_, o', ho', hall⟩ := mem_ready.1 h
 rw [ho] at ho'
 cases ho'
 exact hall e (Array.mem_of_getElem? he) hb
theorem qs1 (hi : i < 4) (hT : WkT kb cb fb tb cl i C Wg dp s t listed T) (hw : qp0 F kb cb fb tb cl i dp s t w) {j : Nat} (hj : j < 10) (hr : j ∈ Region.ready .any zk listed) :
  ∃ o, zk[j]? = some o ∧ o.guard = none ∧ o.dst = some (6 + j) ∧ (execOp (Act.mk T ds).eval o).run Tryz.prog w = .ok (.value (qdq cl i dp s t j)) w ∧ ∀ e ∈ (execOp (Act.mk T ds).eval o).events Tryz.prog w #[], EvF F O e := by
 have e1 : (Act.mk T ds).eval (.tmp 1) = .pointer (some ⟨cb, 0, none⟩) := hT.t1
 have e2 : (Act.mk T ds).eval (.tmp 2) = .pointer (some ⟨kb, 0, none⟩) := hT.t2
 have e3 : (Act.mk T ds).eval (.tmp 3) = .pointer (some ⟨fb, 0, none⟩) := hT.t3
 have e4 : (Act.mk T ds).eval (.tmp 4) = .pointer (some ⟨tb, 0, none⟩) := hT.t4
 have dep : ∀ j', j' < 10 → listed.getD j' false = true → (Act.mk T ds).eval (.tmp (6 + j')) = qdq cl i dp s t j' := fun j' h1 h2 => hT.val j' h1 h2
 have hii : ((i : Int) < 4) := by omega
 have k1 := hw.k
 have k2 := hw.c
 have k3 := hw.f
 have k4 := hw.t
 have k5 := hw.d
 generalize (Act.mk T ds).eval = e at *
 have af := fun o (ho : zk[j]? = some o) => yo (listed := listed) hr ho
 clear hr
 match j, hj with
 |0, _ =>
  obtain ⟨o, ho, hop, hd, hg⟩ : ∃ o, zk[0]? = some o ∧ o.op = .load 3 (.tmp 2) ∧ o.dst = some (6 + 0) ∧ o.guard = none := ⟨_, rfl, rfl, rfl, rfl⟩
  refine ⟨o, ho, hg, hd, ?_, ?_⟩
  ·unfold execOp; simp [go_sem, hop, qdq, e2, k1]
  ·unfold execOp; simp [go_sem, hop, e2, k1]; exact qdy hw.Fk
 |1, _ =>
  obtain ⟨o, ho, hop, hd, hg⟩ : ∃ o, zk[1]? = some o ∧ o.op = .load 40 (.tmp 1) ∧ o.dst = some (6 + 1) ∧ o.guard = none := ⟨_, rfl, rfl, rfl, rfl⟩
  refine ⟨o, ho, hg, hd, ?_, ?_⟩
  ·unfold execOp; simp [go_sem, hop, qdq, e1, k2]
  ·unfold execOp; simp [go_sem, hop, e1, k2]; exact qdy hw.Fc
 |2, _ =>
  obtain ⟨o, ho, hop, hd, hg⟩ : ∃ o, zk[2]? = some o ∧ o.op = .load 3 (.tmp 2) ∧ o.dst = some (6 + 2) ∧ o.guard = none := ⟨_, rfl, rfl, rfl, rfl⟩
  refine ⟨o, ho, hg, hd, ?_, ?_⟩
  ·unfold execOp; simp [go_sem, hop, qdq, e2, k1]
  ·unfold execOp; simp [go_sem, hop, e2, k1]; exact qdy hw.Fk
 |3, _ =>
  have d1 := dep 1 (by omega) (af _ rfl 0 ⟨1, .data⟩ rfl rfl)
  simp only [qdq, Nat.reduceAdd] at d1
  obtain ⟨o, ho, hop, hd, hg⟩ : ∃ o, zk[3]? = some o ∧ o.op = .nilCheck (.tmp 7) ∧ o.dst = some (6 + 3) ∧ o.guard = none := ⟨_, rfl, rfl, rfl, rfl⟩
  refine ⟨o, ho, hg, hd, ?_, ?_⟩
  ·unfold execOp; simp [go_sem, hop, qdq, d1]
  ·unfold execOp; simp [go_sem, hop, d1]
 |4, _ =>
  have d3 := dep 3 (by omega) (af _ rfl 0 ⟨3, .data⟩ rfl rfl)
  simp only [qdq, Nat.reduceAdd] at d3
  obtain ⟨o, ho, hop, hd, hg⟩ : ∃ o, zk[4]? = some o ∧ o.op = .fieldAddr 83 (.tmp 9) 1 ∧ o.dst = some (6 + 4) ∧ o.guard = none := ⟨_, rfl, rfl, rfl, rfl⟩
  refine ⟨o, ho, hg, hd, ?_, ?_⟩
  ·unfold execOp; simp [go_sem, hop, qdq, d3]
  ·unfold execOp; simp [go_sem, hop, d3]
 |5, _ =>
  have d4 := dep 4 (by omega) (af _ rfl 0 ⟨4, .data⟩ rfl rfl)
  simp only [qdq, Nat.reduceAdd] at d4
  have d2 := dep 2 (by omega) (af _ rfl 1 ⟨2, .data⟩ rfl rfl)
  simp only [qdq, Nat.reduceAdd] at d2
  obtain ⟨o, ho, hop, hd, hg⟩ : ∃ o, zk[5]? = some o ∧ o.op = .indexAddr 81 (.tmp 10) (.tmp 8) ∧ o.dst = some (6 + 5) ∧ o.guard = none := ⟨_, rfl, rfl, rfl, rfl⟩
  refine ⟨o, ho, hg, hd, ?_, ?_⟩
  ·unfold execOp; simp [go_sem, hop, qdq, d4, d2, hii]
  ·unfold execOp; simp [go_sem, hop, d4, d2, hii, Instr.indexAt]; intro e h4; omega
 |6, _ =>
  have d5 := dep 5 (by omega) (af _ rfl 0 ⟨5, .data⟩ rfl rfl)
  simp only [qdq, Nat.reduceAdd] at d5
  obtain ⟨o, ho, hop, hd, hg⟩ : ∃ o, zk[6]? = some o ∧ o.op = .fieldAddr 80 (.tmp 11) 1 ∧ o.dst = some (6 + 6) ∧ o.guard = none := ⟨_, rfl, rfl, rfl, rfl⟩
  refine ⟨o, ho, hg, hd, ?_, ?_⟩
  ·unfold execOp; simp [go_sem, hop, qdq, d5]
  ·unfold execOp; simp [go_sem, hop, d5]
 |7, _ =>
  have d6 := dep 6 (by omega) (af _ rfl 0 ⟨6, .data⟩ rfl rfl)
  simp only [qdq, Nat.reduceAdd] at d6
  obtain ⟨o, ho, hop, hd, hg⟩ : ∃ o, zk[7]? = some o ∧ o.op = .load 77 (.tmp 12) ∧ o.dst = some (6 + 7) ∧ o.guard = none := ⟨_, rfl, rfl, rfl, rfl⟩
  refine ⟨o, ho, hg, hd, ?_, ?_⟩
  ·unfold execOp; simp [go_sem, hop, qdq, d6, k5]
  ·unfold execOp; simp [go_sem, hop, d6, k5]; exact qdy hw.Fd
 |8, _ =>
  obtain ⟨o, ho, hop, hd, hg⟩ : ∃ o, zk[8]? = some o ∧ o.op = .load 9 (.tmp 3) ∧ o.dst = some (6 + 8) ∧ o.guard = none := ⟨_, rfl, rfl, rfl, rfl⟩
  refine ⟨o, ho, hg, hd, ?_, ?_⟩
  ·unfold execOp; simp [go_sem, hop, qdq, e3, k3]
  ·unfold execOp; simp [go_sem, hop, e3, k3]; exact qdy hw.Ff
 |9, _ =>
  obtain ⟨o, ho, hop, hd, hg⟩ : ∃ o, zk[9]? = some o ∧ o.op = .load 9 (.tmp 4) ∧ o.dst = some (6 + 9) ∧ o.guard = none := ⟨_, rfl, rfl, rfl, rfl⟩
  refine ⟨o, ho, hg, hd, ?_, ?_⟩
  ·unfold execOp; simp [go_sem, hop, qdq, e4, k4]
  ·unfold execOp; simp [go_sem, hop, e4, k4]; exact qdy hw.Ft
 |_ + 10, h => omega
end
theorem qgg (p p' : Nat → Bool) (i : Nat) (h : ∀ j, j ≠ i → p' j = p j) (hp : p i = true) (hp' : p' i = false) : ∀ l : List Nat, l.Nodup → i ∈ l → l.countP p' + 1 = l.countP p
 | [], _, hi => by cases hi
 |x :: l, hn, hi => by
  rw [List.nodup_cons] at hn
  by_cases hx : x = i
  ·subst hx
   have e : l.countP p' = l.countP p := List.countP_congr fun j hj => by rw [h j (fun e => hn.1 (e ▸ hj))]
   simp [List.countP_cons, hp, hp', e]
  ·have := qgg p p' i h hp hp' l hn.2 ((List.mem_cons.1 hi).resolve_left (fun e => hx e.symm))
   simp only [List.countP_cons, h x hx]
   omega
def cnt (listed : Array Bool) : Nat := (List.range 13).countP fun j => !listed.getD j true
theorem qr8 {listed : Array Bool} {i : Nat} (hi : i < 13) (hs : listed.size = 13) (h : listed.getD i true = false) : cnt (listed.setIfInBounds i true) + 1 = cnt listed := by
 refine qgg _ _ i (fun j hj => ?_) (by simpa using h) ?_ _ List.nodup_range (List.mem_range.2 hi)
 ·rw [getD_set_ne true (Ne.symm hj)]
 ·have : i < listed.size := by omega
  simp [this]
theorem qu6 : (List.range 13).all (fun n => match zk[n]? with | some o => o.after.all fun e => decide (e.on < n) | none => false) = true := by kernel_rfl
theorem qh7 : zk.size = 13 := rfl
theorem qrf {listed : Array Bool} (hs : listed.size = 13) (h : ∃ j, j < 13 ∧ listed.getD j true = false) : Region.ready .any zk listed ≠ [] := by
 have hb := qu6
 rw [List.all_eq_true] at hb
 have key : ∀ n, n ≤ 13 → (∀ j, j < n → listed.getD j false = true) ∨ ∃ j, j ∈ Region.ready .any zk listed := by
  intro n
  induction n with
  |zero => intro _; exact .inl fun j hj => absurd hj (Nat.not_lt_zero _)
  |succ n ih =>
   intro hn
   rcases ih (by omega) with h1 | h1
   ·have hlt : n < listed.size := by omega
    cases hv : listed.getD n false with
    |true =>
     refine .inl fun j hj => ?_
     rcases Nat.lt_or_ge j n with h2 | h2
     ·exact h1 j h2
     ·obtain rfl : j = n := by omega
      exact hv
    |false =>
     refine .inr ⟨n, mem_ready.2 ⟨?_, ?_⟩⟩
     ·simp [hlt] at hv ⊢; exact hv
     ·have := hb n (List.mem_range.2 (by omega))
      cases ho : zk[n]? with
      |none => rw [ho] at this; cases this
      |some o =>
       rw [ho] at this
       refine ⟨o, rfl, fun e he _ => h1 _ ?_⟩
       have := (Array.all_eq_true_iff_forall_mem.1 this) e he
       simpa using this
   ·exact .inr h1
 obtain ⟨j, hj, hjf⟩ := h
 rcases key 13 (jy _) with h1 | ⟨j', h1⟩
 ·have := h1 j hj
  have hlt : j < listed.size := by omega
  simp [hlt] at this hjf
  rw [this] at hjf; cases hjf
 ·exact List.ne_nil_of_mem h1
theorem go_open {listed : Array Bool} {fuel t : Nat} (h : Region.ready .any zk listed ≠ []) : ∃ i t', i ∈ Region.ready .any zk listed ∧
  Region.linearise.go .any zk (fuel + 1) t listed [] = i :: Region.linearise.go .any zk fuel t' (listed.setIfInBounds i true) [] := by
 have hlt : t % (Region.ready .any zk listed).length < (Region.ready .any zk listed).length := Nat.mod_lt _ (List.length_pos_iff.2 h)
 refine ⟨(Region.ready .any zk listed)[t % (Region.ready .any zk listed).length], t / (Region.ready .any zk listed).length, List.getElem_mem _, ?_⟩
 simp only [Region.linearise.go]
 change (match (Region.ready .any zk listed)[t % (Region.ready .any zk listed).length]? with
   |some i => Region.linearise.go .any zk fuel (t / (Region.ready .any zk listed).length) (listed.setIfInBounds i true) [i]
   |none => [].reverse) = _
 rw [List.getElem?_eq_getElem hlt]
 simp only []
 rw [linearise_go_acc]
 rfl
theorem WG.keep {P : Program} {main : Bool} {Stop : Blocks → Blocks → Goroutine → World → Prop} {F0 : Blocks} : ∀ {F O : Blocks} {g : Goroutine} {w : World}, WG P main Stop F O g w → (∀ b, F0 b → F b ∧ ¬ O b ∧ b < w.heap.size) →
  ∀ {w0 : World}, Ext F0 w0 w → WG P main (fun F O g w1 => Stop F O g w1 ∧ Ext F0 w0 w1 ∧ ∀ b, F0 b → F b ∧ ¬ O b ∧ b < w1.heap.size) F O g w := by
 rintro F O g w ⟨r, h⟩
 induction r generalizing F O g w with
 |leaf =>
  intro h0 w0 e0
  exact WG.stop fun w1 e => ⟨h w1 e, e0.trans (e.sub fun b hb => (h0 b hb).1), fun b hb => ⟨(h0 b hb).1, (h0 b hb).2.1, xll (h0 b hb).2.2 e.size⟩⟩
 |node f ih =>
  intro h0 w0 e0
  refine WG.step h.1 fun w1 e => ?_
  obtain ⟨F', O', g', w', es, h1, h2, h3⟩ := h.2 w1 e
  have e1 : Ext F0 w0 w1 := e0.trans (e.sub fun b hb => (h0 b hb).1)
  have hlt : ∀ b, F0 b → b < w1.heap.size := fun b hb => xll (h0 b hb).2.2 e.size
  exact ⟨F', O', g', w', es, h1, h2, ih w1 h3 (fun b hb => ⟨h2.sub b (h0 b hb).1, fun ho => (h2.qo8 b ho).elim (h0 b hb).2.1 (fun hle => Nat.lt_irrefl _ (xll (hlt b hb) hle)), xll (hlt b hb) h2.size⟩)
   (e1.trans ⟨h2.size, fun b hb => h2.keep b (hlt b hb) (h0 b hb).2.1⟩)⟩
theorem zh {T : Array Value} {j : Nat} {v : Value} (h : j < T.size) : (T.setIfInBounds j v).getD j undef = v := by simp [h]
theorem qx {T : Array Value} {j j' : Nat} {v : Value} (h : j ≠ j') : (T.setIfInBounds j v).getD j' undef = T.getD j' undef := by
 simp [xne h]
theorem q5b {listed : Array Bool} {t : Nat} (h : ∀ j, j ∈ Region.ready .any zk listed → False) : ∀ {fuel : Nat}, Region.linearise.go .any zk fuel t listed [] = []
 |0 => rfl
 |fuel + 1 => by
  have hr : Region.ready .any zk listed = [] := List.eq_nil_iff_forall_not_mem.2 h
  simp only [Region.linearise.go]
  change (match (Region.ready .any zk listed)[t % (Region.ready .any zk listed).length]? with
    |some i => Region.linearise.go .any zk fuel (t / (Region.ready .any zk listed).length) (listed.setIfInBounds i true) [i]
    |none => [].reverse) = _
  rw [hr]
  rfl
def AtRet (P : Program) (R : Blocks → Value → World → Prop) (base : List Frame) (F O : Blocks) (g : Goroutine) (w : World) : Prop :=
 FOk F O w ∧ ∃ v, R F v w ∧ g.status = .running ∧ ∀ c cs, base = c :: cs → ∀ w1, stepG P false g w1 = .go (G (c.finish v) cs) w1 #[]
section
variable {kb cb fb tb cl i C Wg : Nat} {dp s t : Value} {listed : Array Bool} {T : Array Value} {ds : List Deferred}
theorem WkT.set (hT : WkT kb cb fb tb cl i C Wg dp s t listed T) {j : Nat} (v : Value) (hv : j < 10 → v = qdq cl i dp s t j) (hj : 6 + j < 18) (hl : listed.size = 13) : WkT kb cb fb tb cl i C Wg dp s t (listed.setIfInBounds j true) (T.setIfInBounds (6 + j) v) := by
 refine ⟨by simpa using hT.size, ?_, ?_, ?_, ?_, ?_, fun j' hj' h => ?_⟩
 ·rw [qx (by omega)]; exact hT.t1
 ·rw [qx (by omega)]; exact hT.t2
 ·rw [qx (by omega)]; exact hT.t3
 ·rw [qx (by omega)]; exact hT.t4
 ·rw [qx (by omega)]; exact hT.t5
 ·by_cases e : j = j'
  ·subst e
   rw [zh (by rw [hT.size]; omega)]
   exact hv hj'
  ·rw [qx (by omega)]
   rw [getD_set_ne false e] at h
   exact hT.val j' hj' h
variable {jb : Blocks → Value → World → Prop} {F0 : Blocks} {w0 : World} {b : Frame} {k : List Item} {cs : List Frame} {Stop : Blocks → Blocks → Goroutine → World → Prop}
theorem wReg (hi : i < 4) (hk : b.kind ≠ .early) (jf : ∀ F v w w1, jb F v w → Ext F w w1 → jb F v w1)
  (hcall : ∀ (c : Frame) (w1 : World), Ext F0 w0 w1 → WG Tryz.prog false (AtRet Tryz.prog jb (c :: cs)) F0 (fun _ => False) (G (Frame.enter Tryz.prog 56 #[dp, s, t] .normal) (c :: cs)) w1)
  (hstop : ∀ F O w T v, FOk F O w → (∀ b, F0 b → F b) → jb F v w → T.getD 16 undef = v → T.getD 17 undef = .pointer (some ⟨C, i, none⟩) → T.size = 18 → Stop F O (G (b.at ⟨T, ds⟩ (.inRegion zk [12] :: k)) cs) w) :
  ∀ (fuel t' : Nat) (listed : Array Bool) (T : Array Value) (F O : Blocks) (w : World), listed.size = 13 → cnt listed = fuel → WkT kb cb fb tb cl i C Wg dp s t listed T → qp0 F0 kb cb fb tb cl i dp s t w → FOk F O w → (∀ b, F0 b → F b) →
   listed.getD 12 true = false → (listed.getD 10 false = true → jb F (T.getD 16 undef) w) → (listed.getD 10 false = false → F = F0 ∧ O = (fun _ => False) ∧ Ext F0 w0 w) → (listed.getD 11 false = true → T.getD 17 undef = .pointer (some ⟨C, i, none⟩)) →
   WG Tryz.prog false Stop F O (G (b.at ⟨T, ds⟩ (.inRegion zk (Region.linearise.go .any zk fuel t' listed []) :: k)) cs) w := by
 intro fuel
 induction fuel with
 |zero =>
  intro t' listed T F O w hsz hc _ _ _ _ h12
  exfalso
  have := qr8 (i := 12) (by omega) hsz h12
  omega
 |succ fuel ih =>
  intro t' listed T F O w hsz hc hT hin hF hsub h12 h10 q85 h11
  obtain ⟨j, t2, hj, e⟩ := go_open (fuel := fuel) (t := t') (qrf hsz ⟨12, by omega, h12⟩)
  rw [e]
  have hjl : listed.getD j true = false := (mem_ready.1 hj).1
  have q5i : j < 13 := by
   obtain ⟨_, o, ho, _⟩ := mem_ready.1 hj
   have := (zx ho).1
   rwa [qh7] at this
  have hcs := qr8 q5i hsz hjl
  have hsz' : (listed.setIfInBounds j true).size = 13 := by simpa using hsz
  have hne : ∀ {n : Nat} {d : Bool}, n ≠ j → (listed.setIfInBounds j true).getD n d = listed.getD n d := fun h => getD_set_ne _ (Ne.symm h)
  rcases (by omega : j < 10 ∨ j = 10 ∨ j = 11 ∨ j = 12) with h | rfl | rfl | rfl
  ·-- one of the first ten
   obtain ⟨o, ho, hg, hd, hr, hev⟩ := qs1 (F := F) (O := O) (ds := ds) hi hT (w := w) ⟨hin.k, hin.c, hin.f, hin.t, hin.d, hsub _ hin.Fk, hsub _ hin.Fc, hsub _ hin.Ff, hsub _ hin.Ft, hsub _ hin.Fd⟩ h hj
   have hwant : Region.wanted o (yielded zk (Act.mk T ds).tmps) = true := by unfold Region.wanted; rw [hg]
   refine WG.value (qdq cl i dp s t j) hF ho hwant hk (fun w1 e1 => ?_) ?_
   ·obtain ⟨o', ho', _, _, hr', hev'⟩ := qs1 (F := F) (O := O) (ds := ds) hi hT (w := w1) (qp0.ext ⟨hin.k, hin.c, hin.f, hin.t, hin.d, hsub _ hin.Fk, hsub _ hin.Fc, hsub _ hin.Ff, hsub _ hin.Ft, hsub _ hin.Fd⟩ e1) h hj
    rw [ho] at ho'
    cases ho'
    exact ⟨hr', hev'⟩
   ·rw [hd]
    refine ih t2 _ _ F O w hsz' (by omega) (hT.set _ (fun _ => rfl) (by omega) hsz) hin hF hsub (by rw [hne (by omega)]; exact h12) (fun h1 => ?_) (fun h1 => ?_) (fun h1 => ?_)
    ·rw [hne (by omega)] at h1
     show jb F ((T.setIfInBounds (6 + j) _).getD 16 undef) w
     rw [qx (by omega)]; exact h10 h1
    ·rw [hne (by omega)] at h1; exact q85 h1
    ·rw [hne (by omega)] at h1
     show (T.setIfInBounds (6 + j) _).getD 17 undef = _
     rw [qx (by omega)]; exact h11 h1
  ·-- the call
   have h10f : listed.getD 10 false = false := by
    have hlt : 10 < listed.size := by omega
    simp [hlt] at hjl ⊢; exact hjl
   obtain ⟨rfl, rfl, e0⟩ := q85 h10f
   obtain ⟨o, ho, hop, hd, hg⟩ : ∃ o, zk[10]? = some o ∧ o.op = .call { callee := .value (.func 56), args := #[.tmp 13, .tmp 14, .tmp 15], argTypes := #[77, 9, 9] } ∧ o.dst = some 16 ∧ o.guard = none := ⟨_, rfl, rfl, rfl, rfl⟩
   have a7 := hT.val 7 (by omega) (yo hj (o := _) rfl 0 ⟨7, .data⟩ rfl rfl)
   have a8 := hT.val 8 (by omega) (yo hj (o := _) rfl 1 ⟨8, .data⟩ rfl rfl)
   have a9 := hT.val 9 (by omega) (yo hj (o := _) rfl 2 ⟨9, .data⟩ rfl rfl)
   have hwant : Region.wanted o (yielded zk (Act.mk T ds).tmps) = true := by unfold Region.wanted; rw [hg]
   have ev : ∀ w1, (execOp (Act.mk T ds).eval o).run Tryz.prog w1 = .ok (.enter 56 #[dp, s, t]) w1 ∧ (execOp (Act.mk T ds).eval o).events Tryz.prog w1 #[] = #[] := fun w1 => by
    have b7 : (Act.mk T ds).eval (.tmp 13) = dp := a7
    have b8 : (Act.mk T ds).eval (.tmp 14) = s := a8
    have b9 : (Act.mk T ds).eval (.tmp 15) = t := a9
    generalize he : (Act.mk T ds).eval = e at *
    have bf : e (.func 56) = .func (.func 56) #[] #[] := by rw [← he]; rfl
    unfold execOp
    constructor
    ·simp [go_sem, hop, b7, b8, b9, bf]
    ·simp [go_sem, hop, b7, b8, b9, bf]
     simp [callFunc, go_sem, Tryz.func56, Tryz.f56]
   have hlow : ∀ x, F x → F x ∧ ¬ (fun _ => False : Blocks) x ∧ x < w.heap.size := fun x hx => ⟨hx, fun h => h, hF.low x hx⟩
   refine WG.quiet rfl hF fun w1 e1 => ⟨_, 0, _, stepG_enter ho hwant hk (ev w1).1, fun e' he => ?_, ?_⟩
   ·have := mem_listed he
    rw [(ev w1).2] at this
    simp at this
   refine WG.then (WG.keep (F0 := F) (hcall _ w1 (e0.trans e1)) (fun x hx => ⟨hx, fun h => h, xll (hF.low x hx) e1.size⟩) (Ext.refl F w1)) ?_
   rintro F1 O1 g1 w2 ⟨⟨hF1, v, hv, hrun, hfin⟩, e2, jaf⟩
   have hin2 := hin.ext (e1.trans e2)
   refine WG.ctl hrun hF1 (hfin _ _ rfl) ?_
   rw [Frame.finish_at, ho]
   show WG _ _ _ _ _ (G (b.at ((Act.mk T ds).put o.dst v) _) cs) w2
   rw [hd]
   refine ih t2 _ _ F1 O1 w2 hsz' (by omega) (hT.set (j := 10) v (fun h => by omega) (by omega) hsz) hin2 hF1 (fun x hx => (jaf x hx).1) (by rw [hne (by omega)]; exact h12) (fun _ => ?_) (fun h1 => ?_) (fun h1 => ?_)
   ·show jb F1 ((T.setIfInBounds (6 + 10) v).getD 16 undef) w2
    rw [zh (by rw [hT.size]; omega)]
    exact hv
   ·have hlt : 10 < listed.size := by omega
    simp [hlt] at h1
   ·rw [hne (by omega)] at h1
    show (T.setIfInBounds (6 + 10) v).getD 17 undef = _
    rw [qx (by omega)]; exact h11 h1
  ·-- the index
   have a0 := hT.val 0 (by omega) (yo hj (o := _) rfl 0 ⟨0, .data⟩ rfl rfl)
   have a10 := yo hj (o := _) rfl 11 ⟨10, .phase⟩ rfl rfl
   obtain ⟨o, ho, hop, hd, hg⟩ : ∃ o, zk[11]? = some o ∧ o.op = .indexAddr 112 (.tmp 5) (.tmp 6) ∧ o.dst = some 17 ∧ o.guard = none := ⟨_, rfl, rfl, rfl, rfl⟩
   have hwant : Region.wanted o (yielded zk (Act.mk T ds).tmps) = true := by unfold Region.wanted; rw [hg]
   have hii : ((i : Int) < 4) := by omega
   refine WG.value (.pointer (some ⟨C, i, none⟩)) hF ho hwant hk (fun w1 e1 => ?_) ?_
   ·have b5 : (Act.mk T ds).eval (.tmp 5) = .pointer (some ⟨C, 0, none⟩) := hT.t5
    have b6 : (Act.mk T ds).eval (.tmp 6) = .int .i64 i := a0
    generalize he : (Act.mk T ds).eval = e at *
    unfold execOp
    constructor
    ·simp [go_sem, hop, b5, b6, hii]
    ·simp [go_sem, hop, b5, b6, hii, Instr.indexAt]
     intro e h4; omega
   ·rw [hd]
    refine ih t2 _ _ F O w hsz' (by omega) (hT.set (j := 11) _ (fun h => by omega) (by omega) hsz) hin hF hsub (by rw [hne (by omega)]; exact h12) (fun h1 => ?_) (fun h1 => ?_) (fun _ => ?_)
    ·show jb F ((T.setIfInBounds (6 + 11) _).getD 16 undef) w
     rw [qx (by omega)]; exact h10 a10
    ·rw [hne (by omega)] at h1
     rw [a10] at h1; cases h1
    ·show (T.setIfInBounds (6 + 11) _).getD 17 undef = _
     rw [zh (by rw [hT.size]; omega)]
  ·-- the store
   have a10 := yo hj (o := _) rfl 1 ⟨10, .data⟩ rfl rfl
   have a11 := yo hj (o := _) rfl 0 ⟨11, .data⟩ rfl rfl
   have hall : ∀ j, j < 12 → listed.getD j false = true := fun j hj12 => by
    have ra := fun q e => yo hj (o := _) rfl q e
    match j, hj12 with
    |0, _ => exact ra 3 ⟨0, .phase⟩ rfl rfl
    |1, _ => exact ra 4 ⟨1, .phase⟩ rfl rfl
    |2, _ => exact ra 5 ⟨2, .phase⟩ rfl rfl
    |3, _ => exact ra 6 ⟨3, .phase⟩ rfl rfl
    |4, _ => exact ra 7 ⟨4, .phase⟩ rfl rfl
    |5, _ => exact ra 8 ⟨5, .phase⟩ rfl rfl
    |6, _ => exact ra 9 ⟨6, .phase⟩ rfl rfl
    |7, _ => exact ra 10 ⟨7, .phase⟩ rfl rfl
    |8, _ => exact ra 11 ⟨8, .phase⟩ rfl rfl
    |9, _ => exact ra 12 ⟨9, .phase⟩ rfl rfl
    |10, _ => exact a10
    |11, _ => exact a11
   have hnil : Region.linearise.go .any zk fuel t2 (listed.setIfInBounds 12 true) [] = [] := q5b fun j hj' => by
    have h1 := (mem_ready.1 hj').1
    have hj13' : j < 13 := by
     obtain ⟨_, o, ho, _⟩ := mem_ready.1 hj'
     have := (zx ho).1
     rwa [qh7] at this
    by_cases e12 : j = 12
    ·subst e12
     have hlt : 12 < listed.size := by omega
     simp [hlt] at h1
    ·rw [getD_set_ne true (Ne.symm e12)] at h1
     have h2 := hall j (by omega)
     have hlt : j < listed.size := by omega
     simp [hlt] at h1 h2
     rw [h1] at h2; cases h2
   rw [hnil]
   exact WG.stop fun w1 e1 => hstop F O w1 T _ (hF.ext e1) hsub (jf _ _ _ _ (h10 a10) e1) rfl (h11 a11) hT.size
end
end
section
open Go.Conc Go.ConcN Go.RowKit Go.Conc.Lib Go.ConcR.Gen Go.ConcN.Gen Go Sim
open Go.ConcR (KK wgBlock WgAt stA smA rd wr mk Payload Aside2 DC0 ofEvent_cell)
instance : Payload := ⟨112⟩
abbrev fW : FuncId := 54
def bW : Frame := baseD fW
noncomputable def qin : Frame := { (default : Frame) with fn := Tryz.prog.funcs.size, defers := [], mode := .panicking [goexitEntry] }
noncomputable def qv4 : Code := Tryz.f54.body.getD .skip
theorem jax : (Tryz.prog.funcs[bW.fn]?).any (·.norace) = false := by kernel_rfl
def qg0 (Wg cb kb fb tb C : Nat) : Deferred := { target := .fn (.func fW) #[.pointer (some ⟨Wg, 0, none⟩), .pointer (some ⟨cb, 0, none⟩), .pointer (some ⟨kb, 0, none⟩), .pointer (some ⟨fb, 0, none⟩), .pointer (some ⟨tb, 0, none⟩), .pointer (some ⟨C, 0, none⟩)], args := #[] }
theorem q6c (T : Array Value) : QuitsD Tryz.prog 2 0 (G { bW.at ⟨T, []⟩ [] with mode := .returning } [qin]) := by
 refine QuitsD.ctl (g' := G qin []) rfl (fun w => ?_) ?_
 ·simp [G, stepG, unwind, doReturn, results, Frame.at, bW, baseD, qin, Tryz.func54, Tryz.f54, seen, GStep.after, goexitEntry]
 refine QuitsD.ctl (g' := { G qin [] with status := .finished }) rfl (fun w => ?_) ⟨rfl, rfl⟩
 simp [G, stepG, unwind, qin, goexitEntry, Frame.catches]
 rfl
theorem qp5 (Wg cb kb fb tb C : Nat) (w : World) : stepG Tryz.prog false (born Tryz.prog (qg0 Wg cb kb fb tb C)) w =
  .go (G (bW.at ⟨#[.pointer (some ⟨Wg, 0, none⟩), .pointer (some ⟨cb, 0, none⟩), .pointer (some ⟨kb, 0, none⟩), .pointer (some ⟨fb, 0, none⟩), .pointer (some ⟨tb, 0, none⟩), .pointer (some ⟨C, 0, none⟩), undef, undef, undef, undef, undef, undef, undef, undef, undef, undef, undef, undef], []⟩ [.code qv4]) [qin]) w #[] := by
 simp [born, qg0, stepG, unwind, callDeferred, invoke, callFunc, Tryz.func54, Tryz.f54, seen, GStep.after, G, Frame.enter, Frame.at, bW, baseD, qin, qv4]
section
variable {main : Bool} {b : Frame} {a : Act} {kk : List Item} {cs : List Frame} {w : World} {ops : Array Oper} {i : Nat} {rest : List Nat} {o : Oper}
theorem qng {x y : Operand} (ho : ops[i]? = some o) (hw : Region.wanted o (yielded ops a.tmps) = true) (hk : b.kind ≠ .early) (hop : o.op = .store 47 x y)
  {ad : Addr} {sa : Option Addr} {n c : Nat} {u : Value} (hx : a.eval x = .pointer (some ad)) (hy : a.eval y = .slice sa n c) (hc : w.cell? ad = some u) (hz : w.frozen? ad = false) (hq : (Tryz.prog.funcs[b.fn]?).any (·.norace) = false) :
  stepG Tryz.prog main (G (b.at a (.inRegion ops (i :: rest) :: kk)) cs) w = .go (G (b.at (a.put o.dst undef) (.inRegion ops rest :: kk)) cs) (w.setCell ad (.slice sa n c)) #[⟨.cell ad, true, false⟩] := by
 have hr : (execOp a.eval o).run Tryz.prog w = .ok .skip (w.setCell ad (.slice sa n c)) := by
  unfold execOp
  simp only [hop, hx, hy]
  simp [go_sem, stored, hc, hz]
 have he : (execOp a.eval o).events Tryz.prog w #[] = #[⟨.cell ad, true, false⟩] := by
  unfold execOp
  simp only [hop, hx, hy]
  simp [go_sem, storedEv, hc, hz]
 rw [stepG_none ho hw hk hr]
 unfold listed
 rw [he, seen_eq hq (by simp)]
end
section
variable {C n i : Nat} {w : World}
theorem qys (hp : PayAt C n w) (hj : i < n) : ∃ u, w.cell? ⟨C, i, none⟩ = some u ∧ w.frozen? ⟨C, i, none⟩ = false := by
 obtain ⟨arr, h1, h2⟩ := hp
 exact ⟨arr[i]'(by omega), by simp [World.cell?, h1, h2, hj], by simp [World.frozen?, h1]⟩
end
theorem qx3 : (Tryz.f55.name == "runtime.NumGoroutine") = false := by kernel_rfl
section
variable {i C Wg : Nat}
theorem jcc {w : World} (T : Array Value) (v : Value) (hK : WgLive link.tWg Wg w ∧ Has C i v w) :
  Goes Tryz.prog false (RW link.tWg Wg C 4 0 i) (DWs Wg qck qck C 4 (i + 1)) (AtR0 Tryz.prog link.tWg Wg C 4 0 (i + 1) v) 26 (G (bW.at ⟨T, [dcall 55 #[.pointer (some ⟨Wg, 0, none⟩)]]⟩ (.inRegion zk [] :: [])) [qin]) w := by
 have hA := @doneN _ link Tryz.prog qs2 qck qck Wg C 4 0 (i + 1) v
 u_c stepG_region_end kn_rely hK
 u_c stepG_end kn_rely hK
 u_in kn_rely hK
 rw [stepG_unwind_enter rfl Tryz.func55 qx3 rfl]
 simp only [goes_go]
 refine ⟨by u_nil, ?_⟩
 walk_nrmf Tryz.f55
 simp only [body_done, doneFn, Option.getD_some] at hA
 exact hA rfl (q6c T) _ hK
theorem q7j {jb : Nat → Blocks → Value → World → Prop} {F O : Blocks} {w : World} {T : Array Value} {v : Value} (hi : i < 4) (hCW : C ≠ Wg) (hR : jb i F v w) (hsl : ∃ sa n c, v = .slice sa n c) (h16 : T.getD 16 undef = v) (h17 : T.getD 17 undef = .pointer (some ⟨C, i, none⟩)) :
  qfh Tryz.prog link.tWg Wg C 4 jb i F O (G (bW.at ⟨T, [dcall 55 #[.pointer (some ⟨Wg, 0, none⟩)]]⟩ (.inRegion zk [12] :: [])) [qin]) w := by
 refine ⟨rfl, v, hR, fun w1 e1 hp hl => ?_⟩
 obtain ⟨u, hu1, hu2⟩ := qys (i := i) hp hi
 obtain ⟨sa, n, c, rfl⟩ := hsl
 obtain ⟨o, ho, hop, hd, hg⟩ : ∃ o, zk[12]? = some o ∧ o.op = .store 47 (.tmp 17) (.tmp 16) ∧ o.dst = none ∧ o.guard = none := ⟨_, rfl, rfl, rfl, rfl⟩
 have hwant : Region.wanted o (yielded zk (Act.mk T [dcall 55 #[.pointer (some ⟨Wg, 0, none⟩)]]).tmps) = true := by unfold Region.wanted; rw [hg]
 have hst := qng (main := false) (b := bW) (kk := []) (cs := [qin]) (rest := []) ho hwant (by decide) hop (h17 : (Act.mk T _).eval (.tmp 17) = _) (h16 : (Act.mk T _).eval (.tmp 16) = _) hu1 hu2 jax
 have hK := And.intro (let ⟨st, sm, h⟩ := hl; (⟨st, sm, h.of_block ((aside_setCell _ ⟨C, i, none⟩ (.slice sa n c)).block Wg (Ne.symm hCW))⟩ : WgLive link.tWg Wg (w1.setCell ⟨C, i, none⟩ (.slice sa n c)))) (q1j (i := i) hp hi (.slice sa n c))
 rw [hd] at hst
 exact ⟨_, hst, 26, jcc T _ hK⟩
theorem qni : Region.departs zk = false := by kernel_rfl
theorem qrt {mixed : Bool} {t : Nat} : Region.schedule mixed zk t = Region.linearise.go .any zk 13 t (Array.replicate 13 false) [] := by
 unfold Region.schedule
 rw [qni]
 simp only [Bool.not_false, Bool.or_true, if_true]
 unfold Region.linearise
 rw [qh7]
theorem q3h {kb cb fb tb cl : Nat} {dp s t : Value} {jb : Nat → Blocks → Value → World → Prop} {F0 : Blocks} {w : World} (hi : i < 4) (hCW : C ≠ Wg) (jf : ∀ F v w w1, jb i F v w → Ext F w w1 → jb i F v w1) (hsl : ∀ F v w, jb i F v w → ∃ sa n c, v = .slice sa n c)
  (hin : qp0 F0 kb cb fb tb cl i dp s t w) (hF : FOk F0 (fun _ => False) w)
  (hcall : ∀ (c : Frame) (cs : List Frame) (w1 : World), Ext F0 w w1 → WG Tryz.prog false (AtRet Tryz.prog (jb i) (c :: cs)) F0 (fun _ => False) (G (Frame.enter Tryz.prog 56 #[dp, s, t] .normal) (c :: cs)) w1) :
  Script Tryz.prog link.tWg Wg C 4 jb i F0 (born Tryz.prog (qg0 Wg cb kb fb tb C)) w := by
 refine ⟨F0, fun _ h => h, ?_⟩
 refine WG.ctl rfl hF (qp5 Wg cb kb fb tb C) ?_
 have hb : qv4 = .seq (.region 0 #[{ dst := none, op := .defer { callee := .value (.func 55), args := #[.tmp 0], argTypes := #[122] }, type := 0, pos := "cluster.go:120", after := #[], guard := none }] false) (.region 1 zk true) := rfl
 rw [hb]
 refine WG.ctl rfl hF (fun w1 => stepG_seq) ?_
 refine WG.ctl rfl hF (fun w1 => stepG_region) ?_
 refine WG.ctl rfl hF (fun w1 => stepG_defer rfl rfl (by decide) rfl) ?_
 walk_nrm
 refine WG.ctl rfl hF (fun w1 => stepG_region_end) ?_
 refine WG.quiet rfl hF fun w1 e1 => ⟨_, 1, #[], stepG_region_draw, by simp, ?_⟩
 rw [qrt]
 show WG _ _ _ _ _ (G (bW.at ⟨#[.pointer (some ⟨Wg, 0, none⟩), .pointer (some ⟨cb, 0, none⟩), .pointer (some ⟨kb, 0, none⟩), .pointer (some ⟨fb, 0, none⟩), .pointer (some ⟨tb, 0, none⟩), .pointer (some ⟨C, 0, none⟩), undef, undef, undef, undef, undef, undef, undef, undef, undef, undef, undef, undef], [dcall 55 #[.pointer (some ⟨Wg, 0, none⟩)]]⟩ _) _) _
 refine wReg (Stop := qfh Tryz.prog link.tWg Wg C 4 jb i) (ds := [dcall 55 #[.pointer (some ⟨Wg, 0, none⟩)]]) (b := bW) (k := []) (cs := [qin]) (jb := jb i) (F0 := F0) (w0 := w) (C := C) (Wg := Wg) hi (by decide) jf (fun c w1 e => hcall c [qin] w1 e)
  (fun F O w T v _ _ hR h16 h17 _ => q7j hi hCW hR (hsl _ _ _ hR) h16 h17) 13 _ (Array.replicate 13 false) _ F0 (fun _ => False) _ rfl rfl ?_ (hin.ext ?_) (hF.ext ?_) (fun _ h => h) rfl ?_ ?_ ?_
 ·refine ⟨rfl, rfl, rfl, rfl, rfl, rfl, fun j hj h => ?_⟩
  have : (Array.replicate 13 false).getD j false = false := by
   have q5i : j < 13 := by omega
   simp [q5i]
  rw [this] at h; cases h
 ·exact ⟨e1.size, e1.keep⟩
 ·exact ⟨e1.size, e1.keep⟩
 ·intro h; cases h
 ·exact fun _ => ⟨rfl, rfl, ⟨e1.size, e1.keep⟩⟩
 ·intro h; cases h
end
end
end Go.Proofs.YtkpekiajdlolnabGreat.Ph
namespace Go.Proofs.YtkpekiajdlolnabGreat.Sim
open Go Go.Conc
def qru (P : Program) (f : FuncId) (R : Value → World → Prop) (fr : Frame) (cs : List Frame) (w : World) : Prop := cs = [c0] ∧ fr.fn = f ∧ ∃ v, fr.leaving P w (.returned v) ∧ R v w
section
variable {X : Cx} {Fb : FuncId → Bool} {wr : Bool}
theorem qd1 (S : X.Set Fb wr (fun _ => false)) {f : FuncId} {args : Array Value} {w : World} (hinv : Inv X Fb wr (Frame.enter X.P f args .normal) [c0] w) {R : Value → World → Prop} (hR : ∀ v w τ, R v (re w τ) → R v w)
  (hc : ∀ τ, Agree w τ → Calls X.P f args (re w τ) fun | .returned v, w' => R v w' | _, _ => False) : qaw X.P (qru X.P f R) (Frame.enter X.P f args .normal) [c0] w := by
 refine bar S (fun fr cs w h => ?_) (fun fr cs w τ hi ha h => ?_) hinv (fun τ ha => ?_)
 ·obtain ⟨-, -, v, h, -⟩ := h
  intro ch e
  rw [h.1] at e; cases e
 ·obtain ⟨e, hfn0, v, ⟨h1, h2, h3, fn, h4, h5⟩, hr⟩ := h
  refine ⟨e, hfn0, v, ⟨h1, h2, h3, fn, h4, ?_⟩, hR _ _ _ hr⟩
  obtain ⟨ρ, fr', up, up', w', e0, hf, -, hw, -, -⟩ := hi.re τ
  rcases hrun : (results fn fr.tmps).runT X.P (re w τ) #[] with ⟨r0, es0⟩
  have h5' : r0 = .ok v (re w τ) := by rw [← h5, ← Sem.runT_fst X.P _ _ #[], hrun]
  subst h5'
  obtain ⟨d1, d2, d3⟩ := (SS.results (f := fn) S.ok hf.tmps).loc hw hrun
  have := d3 w.tape (fun i q hi => (ha i q hi).symm)
  rw [← Sem.runT_fst X.P _ _ #[]]
  have e : re (re w τ) w.tape = w := rfl
  rw [e] at this
  rw [this]
  rfl
 ·obtain ⟨e, w', fr, hRe, hcomes, hfn, hleave⟩ := hc τ ha [c0]
  cases e with
  |panicked chain => exact hRe.elim
  |outgrown => exact hRe.elim
  |returned v =>
   obtain ⟨n, hn⟩ := hcomes
   exact conv S (Q := qru X.P f R) ⟨rfl, hfn, v, hleave, hRe⟩ n (.inl (hinv.re τ)) hn
end
end Go.Proofs.YtkpekiajdlolnabGreat.Sim
namespace Go.Proofs.YtkpekiajdlolnabGreat.Ph
section
open Go Go.Conc Go.ConcN Sim
theorem WG.frame {P : Program} {main : Bool} {Stop : Blocks → Blocks → Goroutine → World → Prop} {H : Blocks} : ∀ {F O : Blocks} {g : Goroutine} {w : World}, WG P main Stop F O g w → (∀ b, H b → b < w.heap.size) →
  WG P main (fun F' O g w => ∃ F, Stop F O g w ∧ (∀ b, F' b ↔ F b ∨ H b) ∧ ∀ b, H b → b < w.heap.size) (fun b => F b ∨ H b) O g w := by
 rintro F O g w ⟨r, h⟩
 induction r generalizing F O g w with
 |leaf => exact fun hH => WG.stop fun w1 e => ⟨F, h w1 (e.sub fun b hb => .inl hb), fun _ => Iff.rfl, fun b hb => xll (hH b hb) e.size⟩
 |node f ih =>
  intro hH
  refine WG.step h.1 fun w1 e => ?_
  obtain ⟨F', O', g', w', es, h1, h2, h3⟩ := h.2 w1 (e.sub fun b hb => .inl hb)
  have hH1 : ∀ b, H b → b < w1.heap.size := fun b hb => xll (hH b hb) e.size
  refine ⟨fun b => F' b ∨ H b, O', g', w', es, h1, ⟨fun b hb => hb.imp (h2.sub b) id, h2.q6u, fun b hb => ?_, h2.qo8, fun b hb => .inl (h2.own b hb), h2.keep, h2.size, fun b hb => hb.elim (h2.low b) fun x => xll (hH1 b x) h2.size, h2.drawn, h2.tape, h2.os, h2.output, fun x hx => ?_, h2.nb⟩, ih w1 h3 fun b hb => xll (hH1 b hb) h2.size⟩
  ·rcases hb with hb | hb
   ·exact (h2.new b hb).imp .inl id
   ·exact .inl (.inr hb)
  ·have := h2.ev x hx
   obtain ⟨loc, wt, sy⟩ := x
   cases loc with
   |cell a => exact ⟨this.1, .inl this.2.1, this.2.2⟩
   |obj r => exact ⟨this.1, .inl this.2.1, this.2.2⟩
   |mark m => cases m <;> exact this
   |_ => exact this
theorem qme {w : World} {T : Array Value} : (results Tryz.f56 T).runT Tryz.prog w #[] = (.ok (T.getD 6 undef) w, #[]) := by
 have e : Tryz.f56.results = #[.tmp 6] := rfl
 simp [results, e, go_sem]
theorem qle {w w' : World} {T : Array Value} {v : Value} (h : (results Tryz.f56 T).run Tryz.prog w = .ok v w') : v = T.getD 6 undef := by
 rw [← Sem.runT_fst _ _ _ #[], qme] at h
 injection h with h _
 exact h.symm
theorem qwu {fn : Func} {f : FuncId} (h : Tryz.prog.funcs[f]? = some fn) (e : f = 56) : fn = Tryz.f56 := by
 rw [e, Tryz.func56] at h
 exact (xoi h).symm
def dm (db mb : Nat) : Nat → Prop := fun b => b = db ∨ b = mb
def rdm (db mb : Nat) : Rel := fun a b => a = b ∧ dm db mb a
def qow (db mb : Nat) (m : Value) (w : World) : World := { w with heap := w.heap.mapIdx fun b o => if b = db then .cells #[m] 142 (0, 1) else if b = mb then o else .cells #[] 0 }
section
variable {db mb : Nat} {es : Array MapEntry} {clock : Nat} {s t : ByteArray} {F0 : Blocks} {w1 : World} {R : Value → World → Prop} {jb : Blocks → Value → World → Prop}
theorem qyr (hF : FOk F0 (fun _ => False) w1) (hdb : F0 db) (hmb : F0 mb) (hne : db ≠ mb) (hd : w1.heap[db]? = some (.cells #[.map (some mb)] 142 (0, 0))) (hm : w1.heap[mb]? = some (.map es clock)) (hes : ∀ (F : FuncId → Prop) ρ, EsR F ρ es.toList es.toList)
  (hcon : ∀ wl, wl.heap[db]? = some (.cells #[.map (some mb)] 142 (0, 1)) → wl.heap[mb]? = some (.map es clock) → Calls Tryz.prog 56 #[.pointer (some ⟨db, 0, none⟩), .string s, .string t] wl fun | .returned v, w' => R v w' | _, _ => False)
  (hR : ∀ v w τ, R v (re w τ) → R v w)
  (htr : ∀ ρ v v' w w', R v w → VR (fun f => fbP f = true) ρ v v' → WN (XW (dm db mb)) ρ w w' → jb (rng ρ) v' w') (hmono : ∀ F F' v w, jb F v w → (∀ b, F b → F' b) → jb F' v w) (c : Frame) (cs : List Frame) :
  WG Tryz.prog false (AtRet Tryz.prog jb (c :: cs)) F0 (fun _ => False) (G (Frame.enter Tryz.prog 56 #[.pointer (some ⟨db, 0, none⟩), .string s, .string t] .normal) (c :: cs)) w1 := by
 have S := jbq (dm db mb)
 have hlt : db < w1.heap.size := (zx hd).1
 have hltm : mb < w1.heap.size := (zx hm).1
 have i1 : (qow db mb (.map (some mb)) w1).heap[db]? = some (.cells #[.map (some mb)] 142 (0, 1)) := by
  simp only [qow, Array.getElem?_mapIdx, hd, Option.map_some, if_true]
 have i2 : (qow db mb (.map (some mb)) w1).heap[mb]? = some (.map es clock) := by
  simp only [qow, Array.getElem?_mapIdx, hm, Option.map_some, if_neg (Ne.symm hne), if_true]
 have hwr : WR (XW (dm db mb)) (rdm db mb) (qow db mb (.map (some mb)) w1) w1 := by
  refine ⟨fun h h' => h.1.symm.trans h'.1, fun h h' => h.1.trans h'.1.symm, fun {a b} hab => ?_, fun _ _ => rfl, fun a ha => ?_⟩
  ·obtain ⟨rfl, h | h⟩ := hab
   ·subst h
    exact ⟨_, _, i1, hd, .cells (.cons (.map ⟨rfl, .inr rfl⟩) .nil) (.inr rfl)⟩
   ·subst h
    exact ⟨_, _, i2, hm, .map (hes _ _)⟩
  ·rcases ha with h | h
   ·subst h; exact .inl ⟨_, _, 1, i1, by simp⟩
   ·subst h; exact .inr ⟨_, _, i2⟩
 have hnl : NB (qow db mb (.map (some mb)) w1) := trivial
 have hargs : jw (fun f => fbP f = true) (rdm db mb) [.pointer (some ⟨db, 0, none⟩), .string s, .string t] [.pointer (some ⟨db, 0, none⟩), .string s, .string t] := .cons (.ptr ⟨rfl, .inl rfl⟩) (.cons (.string s) (.cons (.string t) .nil))
 have hFb : (XW (dm db mb)).F 56 := by show fbP _ = true; decide
 have hfr : FR (XW (dm db mb)) fbP false (rdm db mb) (Frame.enter Tryz.prog 56 #[.pointer (some ⟨db, 0, none⟩), .string s, .string t] .normal) (Frame.enter Tryz.prog 56 #[.pointer (some ⟨db, 0, none⟩), .string s, .string t] .normal) := qod S hFb rfl hargs
 have hB : Bot [Frame.enter Tryz.prog 56 #[.pointer (some ⟨db, 0, none⟩), .string s, .string t] .normal] := by
  intro f hf
  simp at hf
  subst hf
  rfl
 have hinv : Inv (XW (dm db mb)) fbP false (Frame.enter Tryz.prog 56 #[.pointer (some ⟨db, 0, none⟩), .string s, .string t] .normal) [c0] (qow db mb (.map (some mb)) w1) := ⟨rdm db mb, _, [], [], w1, rfl, hfr, .nil, hwr, hnl, hB⟩
 have q33 := qd1 S hinv hR fun τ _ => hcon (re (qow db mb (.map (some mb)) w1) τ) i1 i2
 have hQm : ∀ fr cs w, qru Tryz.prog 56 R fr cs w → ∀ ch, fr.mode ≠ .panicking ch := fun fr cs w ⟨_, _, v, h, _⟩ ch e => by rw [h.1] at e; cases e
 have hgo := q6p S false (c :: cs) hQm q33 (up := []) (up' := []) rfl hfr .nil (WN.of hwr) hnl hB
 have q9m := WG.frame (H := F0) hgo hF.low
 have eF : (fun b => rng (rdm db mb) b ∨ F0 b) = F0 := by
  funext b
  refine propext ⟨fun h => h.elim (fun ⟨a, h1, h2⟩ => ?_) id, .inr⟩
  subst h1
  rcases h2 with rfl | rfl
  ·exact hdb
  ·exact hmb
 have eO : own (XW (dm db mb)) (rdm db mb) = fun _ => False := by
  funext b
  exact propext ⟨fun ⟨a, h1, h2⟩ => h2 h1.2, False.elim⟩
 rw [eF, eO] at q9m
 refine WG.then q9m ?_
 rintro F' O g w ⟨F, hst, hF', hlow⟩
 refine WG.stop fun w2 e2 => ?_
 cases hst with
 |special _ h => cases h
 | @done ρ fr fr' up up' wl w' h1 h2 h3 h4 h5 h6 =>
  obtain ⟨hc, hfn, v, hlv, hr⟩ := h6
  have hup : up = [] := by
   have := congrArg List.length hc
   simp at this
   exact List.eq_nil_of_length_eq_zero (by simpa using this)
  subst hup
  cases h2
  obtain ⟨l1, l2, l3, fn, l4, l5⟩ := hlv
  have h3' := h3.ext (e2.sub fun b hb => (hF' b).2 (.inl hb))
  obtain rfl := qwu l4 hfn
  obtain rfl := qle l5
  have hvr : VR (fun f => fbP f = true) ρ (fr.tmps.getD 6 undef) (fr'.tmps.getD 6 undef) := jw.qjm h1.tmps 6
  refine ⟨⟨fun b hb => ?_, fun b hb => ?_⟩, fr'.tmps.getD 6 undef, hmono _ _ _ _ (htr ρ _ _ _ _ hr hvr h3') (fun b hb => (hF' b).2 (.inl hb)), rfl, fun c' cs' e w3 => ?_⟩
  ·rcases (hF' b).1 hb with ⟨a, hab⟩ | hb
   ·obtain ⟨τ, _, k⟩ := h3'
    obtain ⟨o, o', _, k2, _⟩ := k.heap hab
    exact (zx k2).1
   ·exact xll (hlow b hb) e2.size
  ·obtain ⟨a, hab, _⟩ := hb
   exact (hF' b).2 (.inl ⟨a, hab⟩)
  ·cases e
   have m1 : fr'.mode = .returning := h1.mode.trans l1
   have m2 : fr'.defers = [] := by
    have := h1.defers
    rw [l2] at this
    generalize fr'.defers = d at this
    cases this
    rfl
   have m3 : Tryz.prog.funcs[fr'.fn]? = some Tryz.f56 := by
    rw [h1.fn, hfn]; exact Tryz.func56
   show stepG Tryz.prog false (G fr' (c :: cs)) w3 = _
   rw [zm _ _ _ _ _ m1]
   obtain ⟨fn0, qs0, q4g, qg3, qo5, qoy, ro0⟩ := fr'
   obtain rfl : qoy = .normal := h1.kind'
   obtain rfl : qg3 = [] := m2
   obtain rfl : qo5 = .returning := m1
   have m3 : Tryz.prog.funcs[fn0]? = some Tryz.f56 := m3
   unfold unwind
   dsimp only
   rw [m3]
   dsimp only
   rw [qme]
   rfl
end
end
section
open Go.Conc Go.ConcN Go.RowKit Go.Conc.Lib Go.ConcR.Gen Go.ConcN.Gen Go Sim
open Go.ConcR (KK wgBlock WgAt stA smA rd wr mk Payload Aside2 DC0 ofEvent_cell)
section
variable {P : Program} {ty : TypeId} {Wg : Nat} {F : Blocks} {w0 : World} {Stop : Goroutine → World → Prop}
theorem qtt : ∀ (m : Nat) {g : Goroutine} {w : World}, Goes P true (RM ty Wg F) DC0 Stop m g w → Ext F w0 w → Goes P true (RM ty Wg F) DC0 (fun g w => Stop g w ∧ Ext F w0 w) m g w := by
 intro m
 induction m with
 |zero => exact fun h e w1 r => ⟨h w1 r, e.trans r.ext⟩
 |succ m ih =>
  intro g w h e
  rcases h with h | ⟨h1, h2⟩
  ·exact .inl fun w1 r => ⟨h w1 r, e.trans r.ext⟩
  ·refine .inr ⟨h1, fun w1 r => ?_⟩
   have := h2 w1 r
   cases hs : stepG P true g w1 with
   |go g' w' es =>
    rw [hs, goes_go] at this
    rw [goes_go]
    refine ⟨this.1, ih this.2 ?_⟩
    obtain ⟨rfl, _⟩ := this.1
    exact e.trans r.ext
   |_ => rw [hs] at this; exact this.elim
theorem MG.keep {g : Goroutine} {w : World} (h : MG P ty Wg F Stop g w) (e : Ext F w0 w) : MG P ty Wg F (fun g w => Stop g w ∧ Ext F w0 w) g w := let ⟨m, h⟩ := h; ⟨m, qtt m h e⟩
theorem qqp {Stop' : Goroutine → World → Prop} (hs : ∀ g w, Stop g w → Stop' g w) : ∀ (m : Nat) {g : Goroutine} {w : World}, Goes P true (RM ty Wg F) DC0 Stop m g w → Goes P true (RM ty Wg F) DC0 Stop' m g w := by
 intro m
 induction m with
 |zero => exact fun h w1 r => hs _ _ (h w1 r)
 |succ m ih =>
  intro g w h
  rcases h with h | ⟨h1, h2⟩
  ·exact .inl fun w1 r => hs _ _ (h w1 r)
  ·refine .inr ⟨h1, fun w1 r => ?_⟩
   have := h2 w1 r
   cases hs : stepG P true g w1 with
   |go g' w' es =>
    rw [hs, goes_go] at this
    rw [goes_go]
    exact ⟨this.1, ih this.2⟩
   |_ => rw [hs] at this; exact this.elim
theorem MG.mono {Stop' : Goroutine → World → Prop} {g : Goroutine} {w : World} (h : MG P ty Wg F Stop g w) (hs : ∀ g w, Stop g w → Stop' g w) : MG P ty Wg F Stop' g w := let ⟨m, h⟩ := h; ⟨m, qqp hs m h⟩
theorem qam.keep {m : Mark} {K K' : Goroutine → World → Prop} {g : Goroutine} {w : World} (h : qam P m K g w) (hk : ∀ g, K g w → K' g w) : qam P m K' g w :=
 ⟨h.1, let ⟨g', h1, h2⟩ := h.2; ⟨g', h1, hk _ h2⟩⟩
theorem q1d {w : World} {v : Value} (hW : ¬ F Wg) (e : Ext F w0 w) : Ext F w0 (w.setCell (stA Wg) v) :=
 e.trans ⟨Nat.le_of_eq (aside_setCell w (stA Wg) v).size.symm, fun b hb => (aside_setCell w (stA Wg) v).block b fun (x : b = Wg) => hW (by rw [← x]; exact hb)⟩
theorem qvt {K : Goroutine → World → Prop} {g : Goroutine} {w : World} (hW : ¬ F Wg) (h : MG P ty Wg F (qam P .disable (MG P ty Wg F (qe4 P ty Wg F (MG P ty Wg F K)))) g w) (e : Ext F w0 w) :
  MG P ty Wg F (qam P .disable (MG P ty Wg F (qe4 P ty Wg F (MG P ty Wg F (fun g w => K g w ∧ Ext F w0 w))))) g w := by
 refine (h.keep e).mono fun g w ⟨h1, e1⟩ => h1.keep fun g h2 => (h2.keep e1).mono fun g w ⟨h3, e3⟩ => ⟨h3.1, fun v hv hw => ?_⟩
 obtain ⟨g', k1, k2⟩ := h3.2 v hv hw
 have e4 : Ext F w0 (w.setCell (stA Wg) (.int .u64 ((v + 1) * KK))) := q1d hW e3
 refine ⟨g', k1, k2.imp (fun ⟨a, b⟩ => ⟨a, ?_⟩) (fun ⟨a, b⟩ => ⟨a, ?_⟩)⟩
 ·exact (b.keep e4).mono fun g w ⟨b1, e5⟩ => b1.keep fun g b2 => (b2.keep e5).mono fun g w ⟨b3, e6⟩ => b3.keep fun g b4 => b4.keep e6
 ·exact (b.keep e4).mono fun g w ⟨b1, e5⟩ => b1.keep fun g b4 => b4.keep e5
theorem qvu {K K' : Goroutine → World → Prop} (hs : ∀ g w, K g w → K' g w) {g : Goroutine} {w : World} (h : MG P ty Wg F (qam P .disable (MG P ty Wg F (qe4 P ty Wg F (MG P ty Wg F K)))) g w) :
  MG P ty Wg F (qam P .disable (MG P ty Wg F (qe4 P ty Wg F (MG P ty Wg F K')))) g w :=
 h.mono fun g w h1 => h1.keep fun g h2 => h2.mono fun g w h3 => ⟨h3.1, fun v hv hw => by
  obtain ⟨g', k1, k2⟩ := h3.2 v hv hw
  refine ⟨g', k1, k2.imp (fun ⟨a, b⟩ => ⟨a, ?_⟩) (fun ⟨a, b⟩ => ⟨a, ?_⟩)⟩
  ·exact b.mono fun g w b1 => b1.keep fun g b2 => b2.mono fun g w b3 => b3.keep fun g b4 => b4.mono hs
  ·exact b.mono fun g w b1 => b1.keep fun g b4 => b4.mono hs⟩
end
abbrev fS : FuncId := 27
def bS : Frame := base fS
noncomputable def qdk : Code := Tryz.f27.body.getD .skip
noncomputable def qff : Code := match qdk with | .seq _ (.seq _ (.seq _ (.seq _ c))) => c | _ => .skip
noncomputable def sL : Code := match qff with | .seq (.seq _ (.block _ (.loop c))) _ => c | _ => .skip
noncomputable def sR : Code := match qff with | .seq _ c => c | _ => .skip
noncomputable def sIn : Code := match sL with | .seq _ (.seq _ (.seq (.block _ c) _)) => c | _ => .skip
noncomputable def rg : Code → Array Oper | .region _ ops _ => ops | _ => #[]
noncomputable def R6 : Array Oper := match sL with | .seq a _ => rg a | _ => #[]
noncomputable def R10 : Array Oper := match sL with | .seq _ (.seq _ (.seq _ a)) => rg a | _ => #[]
noncomputable def R7 : Array Oper := match sIn with | .seq a _ => rg a | _ => #[]
noncomputable def R8 : Array Oper := match sIn with | .seq _ (.seq a _) => rg a | _ => #[]
noncomputable def R9 : Array Oper := match sIn with | .seq _ (.seq _ a) => rg a | _ => #[]
theorem jbj : sL = .seq (.region 6 R6 false) (.seq (.cond (.tmp 19) .skip (.exit 0)) (.seq (.block 1 sIn) (.region 10 R10 false))) := rfl
theorem q6i : sIn = .seq (.region 7 R7 false) (.seq (.region 8 R8 false) (.region 9 R9 false)) := rfl
structure ScT (kb cb fb tb C Wg : Nat) (T : Array Value) : Prop where
 size : T.size = 42
 t4 : T.getD 4 undef = .pointer (some ⟨cb, 0, none⟩)
 t5 : T.getD 5 undef = .pointer (some ⟨fb, 0, none⟩)
 t6 : T.getD 6 undef = .pointer (some ⟨tb, 0, none⟩)
 t10 : T.getD 10 undef = .pointer (some ⟨C, 0, none⟩)
 t11 : T.getD 11 undef = .pointer (some ⟨Wg, 0, none⟩)
 t12 : T.getD 12 undef = .pointer (some ⟨kb, 0, none⟩)
section
variable {kb cb fb tb C Wg : Nat} {T : Array Value} {F : Blocks} {w : World} {k : List Item} {cs : List Frame}
def clW (Wg cb kb fb tb C : Nat) : Value := .func (.func fW) #[] #[.pointer (some ⟨Wg, 0, none⟩), .pointer (some ⟨cb, 0, none⟩), .pointer (some ⟨kb, 0, none⟩), .pointer (some ⟨fb, 0, none⟩), .pointer (some ⟨tb, 0, none⟩), .pointer (some ⟨C, 0, none⟩)]
def T9 (Wg cb kb fb tb C : Nat) (T : Array Value) : Array Value := (T.setIfInBounds 21 (.tuple #[])).setIfInBounds 22 (clW Wg cb kb fb tb C)
def qvg (Wg cb kb fb tb C : Nat) (T : Array Value) (k : List Item) (cs : List Frame) (g : Goroutine) (_ : World) : Prop := g = G (bS.at ⟨T9 Wg cb kb fb tb C T, []⟩ (.inRegion R9 [1] :: k)) cs
theorem qtj (hT : ScT kb cb fb tb C Wg T) (w : World) : Goes Tryz.prog true (RM link.tWg Wg F) DC0 (qvg Wg cb kb fb tb C T k cs) 3
  (G (bS.at ((Act.mk T []).put ((R8[0]?).bind (·.dst)) (.tuple #[])) (.inRegion R8 [] :: .code (.region 9 R9 false) :: k)) cs) w := by
 refine Goes.step rfl fun w1 _ => ?_
 rw [stepG_region_end]
 simp only [goes_go]
 refine ⟨⟨rfl, rfl⟩, ?_⟩
 refine Goes.step rfl fun w2 _ => ?_
 rw [stepG_region]
 simp only [goes_go]
 refine ⟨⟨rfl, rfl⟩, ?_⟩
 show Goes _ _ _ _ _ 1 (G (bS.at ⟨T.setIfInBounds 21 (.tuple #[]), []⟩ (.inRegion R9 [0, 1] :: k)) cs) w2
 refine Goes.step rfl fun w3 _ => ?_
 obtain ⟨o, ho, hop, hd, hg⟩ : ∃ o, R9[0]? = some o ∧ o.op = .makeFunc (.func fW) #[] #[.tmp 11, .tmp 4, .tmp 12, .tmp 5, .tmp 6, .tmp 10] ∧ o.dst = some 22 ∧ o.guard = none := ⟨_, rfl, rfl, rfl, rfl⟩
 have hwant : Region.wanted o (yielded R9 (Act.mk (T.setIfInBounds 21 (.tuple #[])) []).tmps) = true := by unfold Region.wanted; rw [hg]
 have ev : (execOp (Act.mk (T.setIfInBounds 21 (.tuple #[])) []).eval o).run Tryz.prog w3 = .ok (.value (clW Wg cb kb fb tb C)) w3 ∧ (execOp (Act.mk (T.setIfInBounds 21 (.tuple #[])) []).eval o).events Tryz.prog w3 #[] = #[] := by
  have b4 : (Act.mk (T.setIfInBounds 21 (.tuple #[])) []).eval (.tmp 4) = _ := (qx (by omega)).trans hT.t4
  have b5 : (Act.mk (T.setIfInBounds 21 (.tuple #[])) []).eval (.tmp 5) = _ := (qx (by omega)).trans hT.t5
  have b6 : (Act.mk (T.setIfInBounds 21 (.tuple #[])) []).eval (.tmp 6) = _ := (qx (by omega)).trans hT.t6
  have b10 : (Act.mk (T.setIfInBounds 21 (.tuple #[])) []).eval (.tmp 10) = _ := (qx (by omega)).trans hT.t10
  have b11 : (Act.mk (T.setIfInBounds 21 (.tuple #[])) []).eval (.tmp 11) = _ := (qx (by omega)).trans hT.t11
  have b12 : (Act.mk (T.setIfInBounds 21 (.tuple #[])) []).eval (.tmp 12) = _ := (qx (by omega)).trans hT.t12
  generalize (Act.mk (T.setIfInBounds 21 (.tuple #[])) []).eval = e at *
  unfold execOp
  constructor
  ·simp [go_sem, hop, b4, b5, b6, b10, b11, b12, clW]
  ·simp [go_sem, hop, b4, b5, b6, b10, b11, b12]
 rw [stepG_value ho hwant (by decide) ev.1]
 simp only [goes_go]
 refine ⟨⟨rfl, ?_⟩, ?_⟩
 ·unfold listed; rw [ev.2, seen_none]
 ·rw [hd]
  exact fun _ _ => rfl
theorem atGo {jb : Nat → Blocks → Value → World → Prop} {i : Nat} {Next : Goroutine → World → Prop} (hT : ScT kb cb fb tb C Wg T) {g : Goroutine} (hg : qvg Wg cb kb fb tb C T k cs g w)
  (hs : PayAt C 4 w → Script Tryz.prog link.tWg Wg C 4 jb i F (born Tryz.prog (qg0 Wg cb kb fb tb C)) w) (hn : Next (G (bS.at ⟨T9 Wg cb kb fb tb C T, []⟩ (.inRegion R9 [] :: k)) cs) w) :
  AtGoM Tryz.prog link.tWg Wg C 4 jb i F Next g w := by
 obtain rfl := hg
 obtain ⟨o, ho, hop, hd, hgd⟩ : ∃ o, R9[1]? = some o ∧ o.op = .go { callee := .value (.tmp 22), args := #[], argTypes := #[] } ∧ o.dst = none ∧ o.guard = none := ⟨_, rfl, rfl, rfl, rfl⟩
 have hwant : Region.wanted o (yielded R9 (Act.mk (T9 Wg cb kb fb tb C T) []).tmps) = true := by unfold Region.wanted; rw [hgd]
 have ev : (execOp (Act.mk (T9 Wg cb kb fb tb C T) []).eval o).run Tryz.prog w = .ok (.spawn (qg0 Wg cb kb fb tb C)) w ∧ (execOp (Act.mk (T9 Wg cb kb fb tb C T) []).eval o).events Tryz.prog w #[] = #[] := by
  have b22 : (Act.mk (T9 Wg cb kb fb tb C T) []).eval (.tmp 22) = clW Wg cb kb fb tb C := zh (by simp [hT.size])
  generalize (Act.mk (T9 Wg cb kb fb tb C T) []).eval = e at *
  unfold execOp
  constructor
  ·simp [go_sem, hop, b22, clW, qg0, resolve, Deferred.ofValue]
  ·simp [go_sem, hop, b22, clW, resolve, Deferred.ofValue]
 have hsp := stepG_spawn (P := Tryz.prog) (main := true) (b := bS) (k := k) (cs := cs) (rest := []) ho hwant (by decide) ev.1 (f := .func fW) (c := #[.pointer (some ⟨Wg, 0, none⟩), .pointer (some ⟨cb, 0, none⟩), .pointer (some ⟨kb, 0, none⟩), .pointer (some ⟨fb, 0, none⟩), .pointer (some ⟨tb, 0, none⟩), .pointer (some ⟨C, 0, none⟩)]) rfl
 rw [hd] at hsp
 have hl : listed Tryz.prog bS.fn (Act.mk (T9 Wg cb kb fb tb C T) []) o w = #[] := by unfold listed; rw [ev.2, seen_none]
 rw [hl] at hsp
 exact ⟨rfl, _, _, hsp, rfl, hs, hn⟩
theorem sAdd {jb : Nat → Blocks → Value → World → Prop} {i : Nat} {Next : Goroutine → World → Prop} (hT : ScT kb cb fb tb C Wg T) (hW : ¬ F Wg) (hl : WgLive link.tWg Wg w)
  (hs : ∀ w1, Ext F w w1 → PayAt C 4 w1 → Script Tryz.prog link.tWg Wg C 4 jb i F (born Tryz.prog (qg0 Wg cb kb fb tb C)) w1) (hn : ∀ w1, Ext F w w1 → Next (G (bS.at ⟨T9 Wg cb kb fb tb C T, []⟩ (.inRegion R9 [] :: k)) cs) w1) :
  MG Tryz.prog link.tWg Wg F (qam Tryz.prog .disable (MG Tryz.prog link.tWg Wg F (qe4 Tryz.prog link.tWg Wg F (MG Tryz.prog link.tWg Wg F (AtGoM Tryz.prog link.tWg Wg C 4 jb i F Next)))))
   (G (Frame.enter Tryz.prog 53 #[.pointer (some ⟨Wg, 0, none⟩), .int .i64 1] .normal) (bS.at ⟨T, []⟩ (.inRegion R8 [0] :: .code (.region 9 R9 false) :: k) :: cs)) w := by
 have h1 := add1 (F := F) qs2 (K := qvg Wg cb kb fb tb C T k cs) (b₀ := bS) (a₀ := ⟨T, []⟩) (ops₀ := R8) (i₀ := 0) (rest₀ := []) (k₀ := .code (.region 9 R9 false) :: k) (cs := cs) (fun w _ => qtj hT w) w hl
 have h2 := qvt hW h1 (Ext.refl F w)
 rw [enter_at _ Tryz.func53 (show Tryz.f53.body = some (body_add link) from rfl)]
 walk_nrmf Tryz.f53
 exact qvu (fun g w ⟨h, e⟩ => atGo hT h (hs w e) (hn w e)) h2
end
structure ScH (mo : Value) (cb fb tb C Wg i : Nat) (T : Array Value) : Prop where
 size : T.size = 42
 t4 : T.getD 4 undef = .pointer (some ⟨cb, 0, none⟩)
 t5 : T.getD 5 undef = .pointer (some ⟨fb, 0, none⟩)
 t6 : T.getD 6 undef = .pointer (some ⟨tb, 0, none⟩)
 t10 : T.getD 10 undef = .pointer (some ⟨C, 0, none⟩)
 t11 : T.getD 11 undef = .pointer (some ⟨Wg, 0, none⟩)
 t18 : T.getD 18 undef = .int .i64 i
 t3 : T.getD 3 undef = mo
theorem jaw : (Tryz.prog.funcs[bS.fn]?).any (·.norace) = false := by kernel_rfl
section
variable {mo : Value} {cb fb tb C Wg i : Nat} {T : Array Value} {F O : Blocks} {w : World} {k : List Item} {cs : List Frame} {Stop : Blocks → Blocks → Goroutine → World → Prop}
theorem q4e (hT : ScH mo cb fb tb C Wg i T) (hF : FOk F O w) {b : Bool} (hb : decide ((i : Int) < 4) = b)
  (n : WG Tryz.prog true Stop F O (G (bS.at ⟨T.setIfInBounds 19 (.bool b), []⟩ (.code (if b then .skip else .exit 0) :: .code (.seq (.block 1 sIn) (.region 10 R10 false)) :: k)) cs) w) :
  WG Tryz.prog true Stop F O (G (bS.at ⟨T, []⟩ (.code sL :: k)) cs) w := by
 rw [jbj]
 refine WG.ctl rfl hF (fun w1 => stepG_seq) ?_
 refine WG.ctl rfl hF (fun w1 => stepG_region) ?_
 change WG _ _ _ _ _ (G (bS.at ⟨T, []⟩ (.inRegion R6 [0] :: _)) cs) w
 obtain ⟨o, ho, hop, hd, hg⟩ : ∃ o, R6[0]? = some o ∧ o.op = .binOp .lss 3 (.tmp 18) (.const (.int .i64 4)) 3 ∧ o.dst = some 19 ∧ o.guard = none := ⟨_, rfl, rfl, rfl, rfl⟩
 have hwant : Region.wanted o (yielded R6 (Act.mk T []).tmps) = true := by unfold Region.wanted; rw [hg]
 refine WG.value (.bool b) hF ho hwant (by decide) (fun w1 _ => ?_) ?_
 ·have b18 : (Act.mk T []).eval (.tmp 18) = .int .i64 i := hT.t18
  have bc : (Act.mk T []).eval (.const (.int .i64 4)) = .int .i64 4 := rfl
  generalize (Act.mk T []).eval = e at *
  unfold execOp
  constructor
  ·simp [go_sem, hop, b18, bc, hb]
  ·simp [go_sem, hop, b18, bc]
 rw [hd]
 change WG _ _ _ _ _ (G (bS.at ⟨T.setIfInBounds 19 (.bool b), []⟩ (.inRegion R6 [] :: _)) cs) w
 refine WG.ctl rfl hF (fun w1 => stepG_region_end) ?_
 refine WG.ctl rfl hF (fun w1 => stepG_seq) ?_
 have hc : (Act.mk (T.setIfInBounds 19 (.bool b)) []).eval (.tmp 19) = .bool b := zh (by rw [hT.size]; omega)
 exact WG.ctl rfl hF (fun w1 => stepG_cond hc) n
def grown (w : World) : World := { w with heap := w.heap.push (.cells #[.int .i64 0] 3) }
theorem qzc {e : Operand → Value} {o : Oper} (hop : o.op = .alloc 3) (w : World) : (execOp e o).run Tryz.prog w = .ok (.value (.pointer (some ⟨w.heap.size, 0, none⟩))) (grown w) ∧ (execOp e o).events Tryz.prog w #[] = #[] := by
 unfold execOp
 constructor
 ·simp [go_sem, hop, grown, Instr.alloc]
 ·simp [go_sem, hop, Instr.alloc]
theorem q6j {e : Operand → Value} {o : Oper} {x y : Operand} {ad : Addr} {n : Int} {u : Value} (hop : o.op = .store 3 x y) (hx : e x = .pointer (some ad)) (hy : e y = .int .i64 n) {w : World} (hc : w.cell? ad = some u) (hz : w.frozen? ad = false) :
  (execOp e o).run Tryz.prog w = .ok .skip (w.setCell ad (.int .i64 n)) ∧ (execOp e o).events Tryz.prog w #[] = #[⟨.cell ad, true, false⟩] := by
 unfold execOp
 simp only [hop, hx, hy]
 constructor
 ·simp [go_sem, stored, hc, hz]
 ·simp [go_sem, storedEv, hc, hz]
theorem qgj {w : World} : (grown w).heap.size = w.heap.size + 1 := by
 show (w.heap.push _).size = _
 rw [Array.size_push]
theorem qom (hF : FOk F O w) : xh F O w (fun b => F b ∨ b = w.heap.size) (fun b => O b ∨ b = w.heap.size) (grown w) #[] :=
 ⟨fun _ h => .inl h, fun _ h => .inl h, fun b h => h.imp id (fun e => by rw [e]; exact jy _), fun b h => h.imp id (fun e => by rw [e]; exact jy _), fun b h => h.imp (hF.own b) id, fun b hb _ => by
  show (w.heap.push _)[b]? = _
  rw [Array.getElem?_push, if_neg (Nat.ne_of_lt hb)], by rw [qgj]; omega,
  fun b h => by
   rw [qgj]
   rcases h with h | h
   ·exact Nat.lt_succ_of_lt (hF.low b h)
   ·omega, ⟨0, rfl⟩, rfl, rfl, rfl, by simp, NB.push fun _ _ e => by cases e⟩
theorem qqr : (grown w).cell? ⟨w.heap.size, 0, none⟩ = some (.int .i64 0) ∧ (grown w).frozen? ⟨w.heap.size, 0, none⟩ = false := by
 have h : (grown w).heap[w.heap.size]? = some (.cells #[.int .i64 0] 3) := by
  show (w.heap.push _)[_]? = _
  rw [Array.getElem?_push, if_pos rfl]
 constructor
 ·simp [World.cell?, h]
 ·simp [World.frozen?, h]
theorem qzg {w : World} {kb : Nat} {v : Value} (hF : FOk F O w) (hk : O kb) : xh F O w F O (w.setCell ⟨kb, 0, none⟩ v) #[⟨.cell ⟨kb, 0, none⟩, true, false⟩] := by
 have hA := aside_setCell w ⟨kb, 0, none⟩ v
 refine ⟨fun _ h => h, fun _ h => h, fun _ h => .inl h, fun _ h => .inl h, hF.own, fun b _ hb => hA.block b fun (e : b = kb) => hb (e ▸ hk), Nat.le_of_eq hA.size.symm, fun b h => by rw [hA.size]; exact hF.low b h, ⟨0, ?_⟩, hA.tape, hA.os, hA.output, fun e he => ?_, fun _ => trivial⟩
 ·unfold World.setCell; rfl
 ·rw [Array.mem_singleton] at he
  subst he
  exact ⟨rfl, hF.own _ hk, fun _ => hk⟩
def T7 (i kb : Nat) (T : Array Value) : Array Value := ((T.setIfInBounds 19 (.bool true)).setIfInBounds 20 (.int .i64 i)).setIfInBounds 12 (.pointer (some ⟨kb, 0, none⟩))
theorem qkr {F O F' O' : Blocks} {w w' : World} {es : Array Event} (h : xh F O w F' O' w' es) : FOk F' O' w' := ⟨h.low, h.own⟩
theorem jbk (hT : ScH mo cb fb tb C Wg i T) (hF : FOk F O w)
  (n : ∀ (kb : Nat) (w3 : World), Ext F w w3 → w.heap.size ≤ kb → w3.cell? ⟨kb, 0, none⟩ = some (.int .i64 i) → FOk (fun b => F b ∨ b = kb) (fun b => O b ∨ b = kb) w3 → WG Tryz.prog true Stop (fun b => F b ∨ b = kb) (fun b => O b ∨ b = kb)
   (G (bS.at ⟨T7 i kb T, []⟩ (.inRegion R8 [0] :: .code (.region 9 R9 false) :: k)) cs) w3) :
  WG Tryz.prog true Stop F O (G (bS.at ⟨T.setIfInBounds 19 (.bool true), []⟩ (.code sIn :: k)) cs) w := by
 rw [q6i]
 refine WG.ctl rfl hF (fun w1 => stepG_seq) ?_
 refine WG.ctl rfl hF (fun w1 => stepG_region) ?_
 change WG _ _ _ _ _ (G (bS.at ⟨T.setIfInBounds 19 (.bool true), []⟩ (.inRegion R7 [0, 1, 2] :: _)) cs) w
 obtain ⟨o, ho, hop, hd, hg⟩ : ∃ o, R7[0]? = some o ∧ o.op = .move (.tmp 18) ∧ o.dst = some 20 ∧ o.guard = none := ⟨_, rfl, rfl, rfl, rfl⟩
 have hwant : Region.wanted o (yielded R7 (Act.mk (T.setIfInBounds 19 (.bool true)) []).tmps) = true := by unfold Region.wanted; rw [hg]
 refine WG.value (.int .i64 i) hF ho hwant (by decide) (fun w1 _ => ?_) ?_
 ·have b18 : (Act.mk (T.setIfInBounds 19 (.bool true)) []).eval (.tmp 18) = .int .i64 i := (qx (by omega)).trans hT.t18
  generalize (Act.mk (T.setIfInBounds 19 (.bool true)) []).eval = e at *
  unfold execOp
  constructor
  ·simp [go_sem, hop, b18]
  ·simp [go_sem, hop, b18]
 rw [hd]
 change WG _ _ _ _ _ (G (bS.at ⟨(T.setIfInBounds 19 (.bool true)).setIfInBounds 20 (.int .i64 i), []⟩ (.inRegion R7 [1, 2] :: _)) cs) w
 obtain ⟨o1, ho1, hop1, hd1, hg1⟩ : ∃ o, R7[1]? = some o ∧ o.op = .alloc 3 ∧ o.dst = some 12 ∧ o.guard = none := ⟨_, rfl, rfl, rfl, rfl⟩
 have qgk : Region.wanted o1 (yielded R7 (Act.mk ((T.setIfInBounds 19 (.bool true)).setIfInBounds 20 (.int .i64 i)) []).tmps) = true := by unfold Region.wanted; rw [hg1]
 refine WG.step rfl fun w1 e1 => ?_
 have hF1 := hF.ext e1
 have hs := stepG_value (P := Tryz.prog) (main := true) (b := bS) (k := .code (.seq (.region 8 R8 false) (.region 9 R9 false)) :: k) (cs := cs) (rest := [2]) ho1 qgk (by decide) (qzc hop1 w1).1
 have hl : listed Tryz.prog bS.fn (Act.mk ((T.setIfInBounds 19 (.bool true)).setIfInBounds 20 (.int .i64 i)) []) o1 w1 = #[] := by unfold listed; rw [(qzc hop1 w1).2, seen_none]
 rw [hl, hd1] at hs
 refine ⟨_, _, _, _, _, hs, qom hF1, ?_⟩
 have hF2 := qkr (qom hF1)
 change WG _ _ _ _ _ (G (bS.at ⟨T7 i w1.heap.size T, []⟩ (.inRegion R7 [2] :: _)) cs) (grown w1)
 obtain ⟨o2, ho2, hop2, hd2, hg2⟩ : ∃ o, R7[2]? = some o ∧ o.op = .store 3 (.tmp 12) (.tmp 20) ∧ o.dst = none ∧ o.guard = none := ⟨_, rfl, rfl, rfl, rfl⟩
 have qqw : Region.wanted o2 (yielded R7 (Act.mk (T7 i w1.heap.size T) []).tmps) = true := by unfold Region.wanted; rw [hg2]
 have b12 : (Act.mk (T7 i w1.heap.size T) []).eval (.tmp 12) = .pointer (some ⟨w1.heap.size, 0, none⟩) := zh (by simp [hT.size])
 have b20 : (Act.mk (T7 i w1.heap.size T) []).eval (.tmp 20) = .int .i64 i := (qx (by omega)).trans (zh (by simp [hT.size]))
 refine WG.step rfl fun w2 e2 => ?_
 have hcell : w2.cell? ⟨w1.heap.size, 0, none⟩ = some (.int .i64 0) ∧ w2.frozen? ⟨w1.heap.size, 0, none⟩ = false := by
  have h := e2.keep w1.heap.size (.inr rfl)
  obtain ⟨g1, g2⟩ := qqr (w := w1)
  unfold World.cell? at g1 ⊢
  unfold World.frozen? at g2 ⊢
  rw [h]
  exact ⟨g1, g2⟩
 have hst := q6j (e := (Act.mk (T7 i w1.heap.size T) []).eval) hop2 b12 b20 hcell.1 hcell.2
 have hs2 := stepG_none (P := Tryz.prog) (main := true) (b := bS) (k := .code (.seq (.region 8 R8 false) (.region 9 R9 false)) :: k) (cs := cs) (rest := []) ho2 qqw (by decide) hst.1
 have hl2 : listed Tryz.prog bS.fn (Act.mk (T7 i w1.heap.size T) []) o2 w2 = #[⟨.cell ⟨w1.heap.size, 0, none⟩, true, false⟩] := by
  unfold listed; rw [hst.2]
  exact seen_eq jaw (by simp)
 rw [hl2, hd2] at hs2
 refine ⟨_, _, _, _, _, hs2, qzg (hF2.ext e2) (.inr rfl), ?_⟩
 have hF3 := qkr (qzg (v := .int .i64 i) (hF2.ext e2) (.inr rfl : (fun b => O b ∨ b = w1.heap.size) w1.heap.size))
 change WG _ _ _ _ _ (G (bS.at ⟨T7 i w1.heap.size T, []⟩ (.inRegion R7 [] :: _)) cs) _
 refine WG.ctl rfl hF3 (fun w1 => stepG_region_end) ?_
 refine WG.ctl rfl hF3 (fun w1 => stepG_seq) ?_
 refine WG.ctl rfl hF3 (fun w1 => stepG_region) ?_
 change WG _ _ _ _ _ (G (bS.at ⟨T7 i w1.heap.size T, []⟩ (.inRegion R8 [0] :: _)) cs) _
 refine n w1.heap.size _ ?_ e1.size ?_ hF3
 ·refine e1.trans ⟨?_, fun b hb => ?_⟩
  ·have := e2.size
   rw [(aside_setCell w2 ⟨w1.heap.size, 0, none⟩ (.int .i64 i)).size]
   rw [qgj] at this
   omega
  ·have hlt := hF1.low b hb
   rw [(aside_setCell w2 ⟨w1.heap.size, 0, none⟩ (.int .i64 i)).block b (fun (e : b = w1.heap.size) => by omega), e2.keep b (.inl hb)]
   show (w1.heap.push _)[b]? = _
   rw [Array.getElem?_push, if_neg (Nat.ne_of_lt hlt)]
 ·have h0 : w2.heap[w1.heap.size]? = some (.cells #[.int .i64 0] 3 (0, 0)) := by
   rw [e2.keep _ (.inr rfl)]
   show (w1.heap.push _)[_]? = _
   rw [Array.getElem?_push, if_pos rfl]
  have hb : (w2.setCell ⟨w1.heap.size, 0, none⟩ (.int .i64 i)).heap[w1.heap.size]? = some (.cells (#[.int .i64 0].setIfInBounds 0 (.int .i64 i)) 3) := by
   rw [setCell_eq_setRow w2 w1.heap.size 0 #[.int .i64 0] _ (0, 0) _ h0, setRow_heap w2 w1.heap.size _ _ _ _ h0]
  simp [World.cell?, hb]
end
end
end Go.Proofs.YtkpekiajdlolnabGreat.Ph
