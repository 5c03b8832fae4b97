/-
  PROVED IN PARTS: text 9 of 11 of the carrying ground of the claim (see each part's own remark). Conditions: those that each theorem names.
-/
import Derived.Test.YtkpekiajdlolnaaGreatM08
import Derived.Deep.RegionWith
import Derived.Laws.IdiomStrings
import Derived.Shelf.SlIter.Nil
import Derived.Shelf.SortM.Plain
import Derived.Shelf.SortM.SortNone
import Derived.Ground.GgzProg
import Derived.Ground.SlgmProg
import Derived.Sort.KeysCollected
import Derived.Sort.Walk0
import Derived.Deep.AppendLies
import Derived.Deep.RegionLaw
import Derived.Carry

/-
  CONTRACTS (lone), fifth text: Put, Delete, Get of the cluster, where nothing moves.
-/
namespace Go.Proofs.YtkpekiajdlolnaaGreat
open Go.RowKit Go.Maps

/-- the cells of a cluster whose shards are at rest. -/
structure Clu (w : World) (cl : Nat) (db mb : Nat → Nat) (L : Nat → KV) : Prop where
  p : ∀ i, i < 4 → PartAt w cl i (db i) (mb i) none (L i)
  ne : ∀ i j, i < 4 → j < 4 → mb i = mb j → i = j
  len : ∀ i, i < 4 → (L i).length ≤ 12
def setKV (L : Nat → KV) (n : Nat) (x : KV) : Nat → KV := fun i => if i = n then x else L i
/-- what a change comes to, keys that are none too. -/
def chAll (L : Nat → KV) (k v : Bs) (g : Bool) : Int := if keyB k then chCode (L (shardOf k)) k v g else 2
def chState (L : Nat → KV) (k v : Bs) (g : Bool) : Nat → KV := if keyB k then setKV L (shardOf k) (chL (L (shardOf k)) k v g) else L
theorem shardOf_lt (k : Bs) : shardOf k < 4 := by
  unfold shardOf shd
  split
  · decide
  · split
    · decide
    · split <;> decide
theorem chL_len {L : KV} {k v : Bs} {g : Bool} (h : L.length ≤ 12) : (chL L k v g).length ≤ 12 := by
  unfold chL
  split
  · rename_i hc
    split
    · exact Nat.le_trans (del_le L k) h
    · rename_i hg
      have hg : g = false := by simpa using hg
      subst hg
      by_cases hh : (kvFind L k).isSome = true
      · exact Nat.le_trans (put_has hh) h
      · have hh : (kvFind L k).isSome = false := by simpa using hh
        have := put_le L k v
        unfold chCode at hc
        rw [hh] at hc
        split at hc
        · cases hc
        · by_cases h12 : L.length = 12
          · simp [h12] at hc
          · omega
  · exact h
section
variable {w w' : World} {cl : Nat} {db mb : Nat → Nat} {L : Nat → KV}
theorem cell_ne_map {b o m : Nat} {x : Value} {L : KV} (hx : w.cell? ⟨b, o, none⟩ = some x) (hm : MapKV w m L) : b ≠ m := fun e => by
  obtain ⟨es, ck, hb, _⟩ := hm
  subst e
  unfold World.cell? at hx
  rw [hb] at hx
  cases hx
theorem Clu.but {n : Nat} {x : KV} (h : Clu w cl db mb L) (hn : n < 4) (hb : But (· = mb n) w w') (hm : MapKV w' (mb n) x) (hx : x.length ≤ 12) : Clu w' cl db mb (setKV L n x) := by
  refine ⟨fun i hi => ?_, h.ne, fun i hi => ?_⟩
  · have hp := h.p i hi
    have keep : ∀ b, b < w.heap.size → b ≠ mb n → w'.heap[b]? = w.heap[b]? := fun b h1 h2 => hb.keep b h1 h2
    have hl := hp.lt
    have c := keep cl hl.1 (cell_ne_map hp.d (h.p n hn).l)
    have d := keep (db i) hl.2.1 (cell_ne_map hp.m (h.p n hn).l)
    unfold setKV
    by_cases e : i = n
    · rw [if_pos e]
      subst e
      exact ⟨(World.cell?_of_block c).trans hp.d, (World.cell?_of_block c).trans hp.v, (World.cell?_of_block d).trans hp.m, hm⟩
    · rw [if_neg e]
      have m := keep (mb i) hl.2.2 fun e2 => e (h.ne i n hi hn e2)
      exact hp.block fun b hb => by rcases hb with rfl | rfl | rfl <;> assumption
  · unfold setKV
    split
    · exact hx
    · exact h.len i hi
theorem Clu.below (h : Clu w cl db mb L) (hb : Below w.heap.size w w') : Clu w' cl db mb L := ⟨fun i hi => (h.p i hi).below hb, h.ne, h.len⟩
/-- the contract's end: the answer, the shards, and that nothing else has turned. -/
def CluPost (w : World) (cl : Nat) (db mb : Nat → Nat) (L : Nat → KV) (c : Int) (e : Ending) (w' : World) : Prop := e = .returned (.int .i64 c) ∧ Clu w' cl db mb L ∧ But (fun b => ∃ i, i < 4 ∧ b = mb i) w w'
theorem change_c (h : Clu w cl db mb L) (k v : ByteArray) (g : Bool) (hs : k.size ≤ maxLen) :
    Calls Tryz.prog 50 #[.pointer (some ⟨cl, 0, none⟩), .agg #[.string k, .string v, .bool g]] w (CluPost w cl db mb (chState L k.data.toList v.data.toList g) (chAll L k.data.toList v.data.toList g)) := by
  cases hk : keyB k.data.toList
  · refine (change_key k v g hk hs).mono fun e w' ⟨h1, h2⟩ => ?_
    unfold chState chAll
    rw [hk]
    exact ⟨h1, h.below h2, .of_below h2⟩
  · have hn := shardOf_lt k.data.toList
    refine (change_yes k v g _ hn hk rfl hs (h.len _ hn) (h.p _ hn)).mono fun e w' ⟨h1, h2, h3⟩ => ?_
    unfold chState chAll
    rw [hk]
    exact ⟨h1, h.but hn h3 h2 (chL_len (h.len _ hn)), h3.mono fun b e => ⟨_, hn, e⟩⟩
set_option maxRecDepth 100000 in
theorem put_c (h : Clu w cl db mb L) (k v : ByteArray) (hs : k.size ≤ maxLen) :
    Calls Tryz.prog 29 #[.pointer (some ⟨cl, 0, none⟩), .string k, .string v] w (CluPost w cl db mb (chState L k.data.toList v.data.toList false) (chAll L k.data.toList v.data.toList false)) := by
  have hc := change_c h k v false hs
  generalize chState L k.data.toList v.data.toList false = L' at *
  generalize chAll L k.data.toList v.data.toList false = c at *
  go_enter Tryz.func29, Tryz.ntmps29
  go_wp2_with (go_at_call 50; refine hc.mono ?_; rintro e w' ⟨rfl, h2⟩)
  go_ret
  exact ⟨rfl, h2⟩
set_option maxRecDepth 100000 in
theorem delete_c (h : Clu w cl db mb L) (k : ByteArray) (hs : k.size ≤ maxLen) :
    Calls Tryz.prog 32 #[.pointer (some ⟨cl, 0, none⟩), .string k] w (CluPost w cl db mb (chState L k.data.toList [] true) (chAll L k.data.toList [] true)) := by
  have hc := change_c h k ⟨#[]⟩ true hs
  rw [show (⟨#[]⟩ : ByteArray).data.toList = [] from rfl] at hc
  generalize chState L k.data.toList [] true = L' at *
  generalize chAll L k.data.toList [] true = c at *
  go_enter Tryz.func32, Tryz.ntmps32
  go_wp2_with (go_at_call 50; refine hc.mono ?_; rintro e w' ⟨rfl, h2⟩)
  go_ret
  exact ⟨rfl, h2⟩
/-- what Get answers. -/
def getV (L : Nat → KV) (k : Bs) : Bs := if keyB k then (kvFind (L (shardOf k)) k).getD [] else []
def getE (L : Nat → KV) (k : Bs) : Int := if keyB k then (if (kvFind (L (shardOf k)) k).isSome then 0 else 6) else 2
def GetsPost (w : World) (v : Bs) (c : Int) (e : Ending) (w' : World) : Prop := e = .returned (.tuple #[sv v, .int .i64 c]) ∧ Below w.heap.size w w'
set_option maxRecDepth 100000 in
theorem get_all (h : Clu w cl db mb L) (k : ByteArray) (hs : k.size ≤ maxLen) :
    Calls Tryz.prog 30 #[.pointer (some ⟨cl, 0, none⟩), .string k] w (GetsPost w (getV L k.data.toList) (getE L k.data.toList)) := by
  have HH := Lib.hid h
  clear h
  cases hk : keyB k.data.toList
  · have HK := Lib.hid hk
    clear hk
    go_enter Tryz.func30, Tryz.ntmps30
    go_wp2_with (go_at_call 51; refine (of_no _ _ HK.out hs).mono ?_; rintro e w1 ⟨rfl, hb⟩)
    go_ret2
    unfold getV getE
    rw [HK.out]
    exact ⟨rfl, hb⟩
  · have HK := Lib.hid hk
    clear hk
    have hn := shardOf_lt k.data.toList
    have hp := HH.out.p _ hn
    have HG : Hid (getV L k.data.toList = (kvFind (L (shardOf k.data.toList)) k.data.toList).getD [] ∧ getE L k.data.toList = if (kvFind (L (shardOf k.data.toList)) k.data.toList).isSome then 0 else 6) := by
      unfold getV getE; rw [HK.out]; exact ⟨rfl, rfl⟩
    generalize hnn : shardOf k.data.toList = n at *
    have HN := Lib.hid hnn
    have HP := Lib.hid hp
    obtain ⟨x, hx⟩ : ∃ x, kvFind (L n) k.data.toList = x := ⟨_, rfl⟩
    rw [hx] at HG
    have HX := Lib.hid hx
    clear hp hnn hx
    have hn3 : ((n : Int) < 4) := by omega
    cases x
    all_goals
      go_enter Tryz.func30, Tryz.ntmps30
      go_wp2_with (first
        | (go_at_call 51; refine (of_yes _ _ HK.out).mono ?_; rintro e w1 ⟨rfl, hb⟩; rw [HN.out]; have HP1 := Lib.hid (HP.out.below hb); have HB1 := Lib.hid hb; obtain ⟨pd, pv, pm, pl⟩ := HP1.out; clear hb pl)
        | (go_at_call 52; refine (get_c pm HP1.out.l k hs).mono ?_; rintro e w2 ⟨rfl, hb2⟩; rw [HX.out]; have HB2 := Lib.hid (HB1.out.trans (hb2.mono HB1.out.size)); clear hb2))
      go_ret2
      exact ⟨by rw [HG.out.1, HG.out.2]; rfl, HB2.out⟩
end
end Go.Proofs.YtkpekiajdlolnaaGreat

/-
  CONTRACTS OF THE DOCUMENT's SIDE (lone), fourth text: Change, Get, where nothing moves.
-/
namespace Go.Proofs.YtkpekiajdlolnaaGreat
open Go.RowKit Go.Maps

/-- the document's cluster, where nothing moves. -/
structure Mdl (w : World) (ml sb : Nat) (lv : Nat → Value) (L : Nat → KV) : Prop where
  s : ∃ cap, w.cell? ⟨ml, 1, none⟩ = some (.slice (some ⟨sb, 0, none⟩) 4 cap)
  t : ∃ mc, w.heap[ml]? = some (.cells mc 188 (0, 0))
  b : ∃ cur, w.heap[sb]? = some (.cells cur 191 (0, 0)) ∧ ∀ i, i < 4 → cur[i * 3 + 1]? = some (lv i) ∧ cur[i * 3 + 2]? = some (.pointer none) ∧ ∃ o : Int, cur[i * 3]? = some (.int .i64 o)
  r : ∀ i, i < 4 → RowKV w 0 (lv i) (L i)
def setV {α : Type} (L : Nat → α) (n : Nat) (x : α) : Nat → α := fun i => if i = n then x else L i
section
variable {w w' : World} {ml sb : Nat} {lv : Nat → Value} {L : Nat → KV}
theorem Mdl.lts (h : Mdl w ml sb lv L) : ml < w.heap.size ∧ sb < w.heap.size := by
  obtain ⟨mc, h1⟩ := h.t
  obtain ⟨cur, h2, _⟩ := h.b
  exact ⟨(Array.getElem?_eq_some_iff.1 h1).1, (Array.getElem?_eq_some_iff.1 h2).1⟩
theorem Mdl.cl (h : Mdl w ml sb lv L) {i : Nat} (hi : i < 4) : w.cell? ⟨sb, i * 3 + 1, none⟩ = some (lv i) ∧ w.cell? ⟨sb, i * 3 + 2, none⟩ = some (.pointer none) ∧ w.frozen? ⟨sb, i * 3 + 1, none⟩ = false := by
  obtain ⟨cur, h1, h2⟩ := h.b
  obtain ⟨h3, h4, _⟩ := h2 i hi
  exact ⟨by simp [World.cell?, h1, h3], by simp [World.cell?, h1, h4], by simp [World.frozen?, h1]⟩
theorem Mdl.owner (h : Mdl w ml sb lv L) {i : Nat} (hi : i < 4) : ∃ o : Int, w.cell? ⟨sb, i * 3, none⟩ = some (.int .i64 o) := by
  obtain ⟨cur, h1, h2⟩ := h.b
  obtain ⟨_, _, o, h3⟩ := h2 i hi
  exact ⟨o, by simp [World.cell?, h1, h3]⟩
theorem RowKV.block {v : Value} {l : KV} (h : RowKV w 0 v l) (k : ∀ g, v.ownBlock = some g → w'.heap[g]? = w.heap[g]?) : RowKV w' 0 v l := by
  refine ⟨⟨h.1.1, h.1.2.imp id ?_⟩, h.2.block k⟩
  rintro ⟨g, cap, cur, rfl, h1, h2, h3⟩
  exact ⟨g, cap, cur, rfl, h1, (k g rfl).trans h2, h3⟩
theorem RowKV.ty {v : Value} {l : KV} {b : Nat} (h : RowKV w b v l) {g : Nat} (hg : v.ownBlock = some g) : ∃ cur, w.heap[g]? = some (.cells cur 62 (0, 0)) := by
  rcases h.1.2 with ⟨rfl, _⟩ | ⟨g', cap, cur, rfl, _, h2, _⟩
  · cases hg
  · cases hg; exact ⟨cur, h2⟩
theorem Mdl.below (h : Mdl w ml sb lv L) (hb : Below w.heap.size w w') : Mdl w' ml sb lv L := by
  obtain ⟨l1, l2⟩ := h.lts
  obtain ⟨cap, h1⟩ := h.s
  obtain ⟨mc, h2⟩ := h.t
  obtain ⟨cur, h3, h4⟩ := h.b
  exact ⟨⟨cap, (hb.cell l1).trans h1⟩, ⟨mc, (hb.block _ l1).trans h2⟩, ⟨cur, (hb.block _ l2).trans h3, h4⟩, fun i hi => (h.r i hi).block fun g hg => hb.block g (let ⟨c, e⟩ := (h.r i hi).ty hg; (Array.getElem?_eq_some_iff.1 e).1)⟩
/-- a shard's list is put in its place. -/
theorem Mdl.store (h : Mdl w ml sb lv L) {n : Nat} (hn : n < 4) {v : Value} {x : KV} (hv : RowKV w 0 v x) : Mdl (w.setCell ⟨sb, n * 3 + 1, none⟩ v) ml sb (setV lv n v) (setV L n x) := by
  obtain ⟨cap, h1⟩ := h.s
  obtain ⟨mc, h2⟩ := h.t
  obtain ⟨cur, h3, h4⟩ := h.b
  have hne : ml ≠ sb := fun e => by rw [e, h3] at h2; cases h2
  have hs := heap_setCell_same w sb (n * 3 + 1) cur 191 v h3
  have ho : ∀ b, b ≠ sb → (w.setCell ⟨sb, n * 3 + 1, none⟩ v).heap[b]? = w.heap[b]? := fun b hb => heap_setCell_other w _ b v hb
  have hrow : ∀ {u : Value} {l : KV}, RowKV w 0 u l → RowKV (w.setCell ⟨sb, n * 3 + 1, none⟩ v) 0 u l := fun {u l} hr => hr.block fun g hg => ho g fun e => by
    obtain ⟨c, hc⟩ := hr.ty hg
    rw [e, h3] at hc
    cases hc
  refine ⟨⟨cap, (World.cell?_of_block (ho ml hne)).trans h1⟩, ⟨mc, (ho ml hne).trans h2⟩, ⟨_, hs, fun i hi => ?_⟩, fun i hi => ?_⟩
  · obtain ⟨h5, h6, o, h7⟩ := h4 i hi
    have hsz : i * 3 + 1 < cur.size := (Array.getElem?_eq_some_iff.1 h5).1
    unfold setV
    refine ⟨?_, ?_, o, ?_⟩
    · by_cases e : i = n
      · subst e
        rw [if_pos rfl, Array.getElem?_setIfInBounds_self_of_lt hsz]
      · rw [if_neg e, Array.getElem?_setIfInBounds_ne (by omega), h5]
    · rw [Array.getElem?_setIfInBounds_ne (by omega), h6]
    · rw [Array.getElem?_setIfInBounds_ne (by omega), h7]
  · unfold setV
    by_cases e : i = n
    · rw [if_pos e, if_pos e]; exact hrow hv
    · rw [if_neg e, if_neg e]; exact hrow (h.r i hi)
/-- done, at whatever list. -/
theorem done_row {v : Value} {l : KV} (hr : RowKV w 0 v l) (hl : l.length ≤ 1073741822) (hri : Rising l) (k x : ByteArray) (g : Bool) (hg : g = true → atHas l k.data.toList = true) :
    Calls Tryz.prog 114 #[v, .agg #[.string k, .string x, .bool g]] w (DonePost w (if g then kvDel l k.data.toList else kvPut l k.data.toList x.data.toList)) := by
  obtain ⟨a1, a2, a3, a4, a5⟩ := at_spec hri k.data.toList
  have e : (if g then kvDel l k.data.toList else kvPut l k.data.toList x.data.toList) = kvDone l k.data.toList x.data.toList g := by
    cases g
    · exact (a5 _).symm
    · exact (a4 _).symm
  rw [e]
  rcases hr.1.2 with ⟨rfl, hz⟩ | ⟨b, cap, cur, rfl, _, _, hc, _⟩
  · obtain rfl : l = [] := List.eq_nil_of_length_eq_zero hz
    cases g
    · exact done_nil k x
    · have := hg rfl; simp [atHas] at this
  · refine done_some k x g hr hc hl rfl rfl a1 fun h => ?_
    rw [a2] at h
    obtain ⟨v, hv⟩ := Option.isSome_iff_exists.1 h
    exact (List.getElem?_eq_some_iff.1 (a3 v hv)).1
end
end Go.Proofs.YtkpekiajdlolnaaGreat

/-
  CONTRACTS OF THE DOCUMENT's SIDE (lone), fifth text: Change.
-/
namespace Go.Proofs.YtkpekiajdlolnaaGreat
open Go.RowKit Go.Maps

theorem But.setCell {B : Nat → Prop} {w w' : World} {b : Nat} (h : But B w w') (hb : B b) (o : Nat) (v : Value) : But B w (w'.setCell ⟨b, o, none⟩ v) :=
  ⟨by simpa using h.size, fun k hk hn => (heap_setCell_other w' _ k v fun e => hn (by subst e; exact hb)).trans (h.keep k hk hn), h.os, h.output⟩
def MdlPost (w : World) (ml sb : Nat) (L : Nat → KV) (c : Int) (e : Ending) (w' : World) : Prop := e = .returned (.int .i64 c) ∧ (∃ lv, Mdl w' ml sb lv L) ∧ But (· = sb) w w'
section
variable {w : World} {ml sb : Nat} {lv : Nat → Value} {L : Nat → KV}
theorem at_held {W : World} {n : Nat} {k : ByteArray} {x : ByteArray} {g : Bool} {w1 : World} {A B : Prop} (h : A ∧ B ∧ Hid (Mdl w1 ml sb lv L ∧ CA W.heap.size k x g w1 ∧ Below W.heap.size W w1 ∧ W.heap.size < w1.heap.size)) (hn : n < 4) (hL : (L n).length ≤ 12) :
    Calls Tryz.prog 113 #[lv n, .string k] w1 fun e w' => (e = .returned (.tuple #[.int .i64 (atIx (L n) k.data.toList), .bool (atHas (L n) k.data.toList)])) ∧ Mdl w' ml sb lv L ∧ CA W.heap.size k x g w' ∧ Below W.heap.size W w' ∧ W.heap.size < w'.heap.size :=
  (at_row (h.2.2.out.1.r n hn).1 (by omega) k).mono fun e w' ⟨h1, h2⟩ => ⟨h1, h.2.2.out.1.below h2, ⟨(h2.cell h.2.2.out.2.2.2).trans h.2.2.out.2.1.c0, (h2.cell h.2.2.out.2.2.2).trans h.2.2.out.2.1.c1, (h2.cell h.2.2.out.2.2.2).trans h.2.2.out.2.1.c2⟩, h.2.2.out.2.2.1.trans (h2.mono h.2.2.out.2.2.1.size), Nat.lt_of_lt_of_le h.2.2.out.2.2.2 h2.size⟩
theorem setV_self {α : Type} (L : Nat → α) (n : Nat) : setV L n (L n) = L := by
  funext i; unfold setV; split
  · rename_i h; rw [h]
  · rfl
theorem row_shape {v : Value} {l : KV} {b : Nat} (h : RowKV w b v l) : ∃ sa cp, v = .slice sa l.length cp := by
  rcases h.1.2 with ⟨rfl, hz⟩ | ⟨g, cap, cur, rfl, _⟩
  · exact ⟨none, 0, by rw [hz]⟩
  · exact ⟨_, _, rfl⟩
theorem RowKV.to0 {v : Value} {l : KV} {b : Nat} (h : RowKV w b v l) : RowKV w 0 v l := row_end h.1 h.2 (Nat.zero_le _) rfl
theorem done_at {W : World} {n : Nat} {k v : ByteArray} {g : Bool} {w1 : World} {sa : Option Addr} {cp : Nat} (h : Mdl w1 ml sb lv L ∧ CA W.heap.size k v g w1 ∧ Below W.heap.size W w1 ∧ W.heap.size < w1.heap.size) (hn : n < 4) (hv : lv n = .slice sa (L n).length cp) (hL : (L n).length ≤ 12) (hri : Rising (L n)) (hg : g = true → (kvFind (L n) k.data.toList).isSome = true) (d : Nat) :
    Calls Tryz.prog 114 #[.slice sa (L n).length cp, .agg #[.string k, .string v, .bool g]] (w1.drewN d) fun e w' => ∃ sa' nn cp', e = .returned (.slice sa' nn cp') ∧ Mdl w' ml sb lv L ∧ RowKV w' 0 (.slice sa' nn cp') (if g then kvDel (L n) k.data.toList else kvPut (L n) k.data.toList v.data.toList) ∧ Below W.heap.size W w' := by
  have hm : Mdl (w1.drewN d) ml sb lv L := h.1.below (Below.drewN' (Below.refl _ _) d)
  have hr := hm.r n hn
  rw [hv] at hr
  refine (done_row hr (by omega) hri k v g fun e => by rw [(at_spec hri k.data.toList).2.1]; exact hg e).mono ?_
  rintro e w' ⟨v', rfl, h1, h2⟩
  obtain ⟨sa', cp', rfl⟩ := row_shape h1
  exact ⟨sa', _, cp', rfl, hm.below h2, h1.to0, (Below.drewN' h.2.2.1 d).trans (h2.mono h.2.2.1.size)⟩
set_option maxRecDepth 100000 in
theorem rchange_no (k v : ByteArray) (g : Bool) (h : keyB k.data.toList = false) : Calls Tryz.prog 74 #[.pointer (some ⟨ml, 0, none⟩), .agg #[.string k, .string v, .bool g]] w (RetB 2 w) := by
  go_enter Tryz.func74, Tryz.ntmps74
  go_wp2_with (go_at_call 112; refine (rof_no _ h).mono ?_; rintro e w1 ⟨rfl, hb⟩)
  go_ret
  exact ⟨rfl, ((Below.refl _ _).alloc (Nat.le_refl _) _).trans (hb.mono (by simp))⟩
set_option maxRecDepth 100000 in
set_option maxHeartbeats 1000000 in
theorem rchange_yes (k v : ByteArray) (g : Bool) (n : Nat) (hn : n < 4) (hk : keyB k.data.toList = true) (hkn : shardOf k.data.toList = n) (hL : (L n).length ≤ 12) (hri : Rising (L n)) (hm : Mdl w ml sb lv L) :
    Calls Tryz.prog 74 #[.pointer (some ⟨ml, 0, none⟩), .agg #[.string k, .string v, .bool g]] w (MdlPost w ml sb (setV L n (chL (L n) k.data.toList v.data.toList g)) (chCode (L n) k.data.toList v.data.toList g)) := by
  have hn3 : ((n : Int) < 4) := by omega
  have HM := Lib.hid hm
  have HR := Lib.hid hri
  clear hm hri
  go_enter Tryz.func74, Tryz.ntmps74
  go_wp2_with (go_at_call 112; refine (rof_yes _ hk).mono ?_; rintro e w1 ⟨rfl, hb⟩; rw [hkn]; have H1 := Lib.hid (CA.of hb); have M1 := Lib.hid (HM.out.below H1.out.2.1); obtain ⟨cap, ms⟩ := M1.out.s; obtain ⟨m1, m2, m3⟩ := M1.out.cl hn; obtain ⟨c0, c1, c2⟩ := H1.out.1; clear hb)
  go_region_held3 (fun w' => w'.cell? ⟨sb, n * 3 + 1, none⟩ = some (lv n) ∧ w'.cell? ⟨w.heap.size, 0, none⟩ = some (.string k) ∧ Hid (Mdl w' ml sb lv L ∧ CA w.heap.size k v g w' ∧ Below w.heap.size w w' ∧ w.heap.size < w'.heap.size))
    (first | exact ⟨m1, c0, Lib.hid ⟨M1.out.below (Below.drew (Below.refl _ _)), ⟨c0, c1, c2⟩, H1.out.2.1.drew, H1.out.2.2⟩⟩ | exact ⟨(H2.out.1.cl hn).1, H2.out.2.1.c0, H2⟩)
    (first | (go_at_call 113; refine (at_held (by assumption) hn hL).mono ?_; rintro e w2 ⟨rfl, h2⟩; have H2 := Lib.hid h2; clear h2))
  have HA := Lib.hid (at_spec HR.out k.data.toList)
  rw [HA.out.2.1]
  obtain ⟨has, hhas⟩ : ∃ b, (kvFind (L n) k.data.toList).isSome = b := ⟨_, rfl⟩
  rw [hhas]
  have HF := Lib.hid hhas
  clear hhas
  obtain ⟨sa, cp, hv⟩ := row_shape (H2.out.1.r n hn)
  have HV := Lib.hid hv
  obtain ⟨e0, e1, e2⟩ := H2.out.2.1
  obtain ⟨p1, p2, p3⟩ := H2.out.1.cl hn
  rw [hv] at p1
  clear hv
  have HB2 := Lib.hid (But.of_below (B := (· = sb)) H2.out.2.2.1)
  by_cases hbig : 12 < v.size
  · have HE := Lib.hid (ch_big (L := L n) (k := k.data.toList) (g := g) (v := v.data.toList) (by simpa using hbig))
    have g1 : decide ((12 : Int) < v.size) = true := by simp; omega
    go_wp2
    go_ret
    exact ⟨by rw [HE.out.1]; rfl, ⟨lv, by rw [HE.out.2, setV_self]; exact H2.out.1⟩, HB2.out⟩
  have HG := Lib.hid (ch_not (L := L n) (k := k.data.toList) (g := g) (v := v.data.toList) (by simpa using hbig))
  rw [HF.out] at HG
  have g1 : decide ((12 : Int) < v.size) = false := by simp; omega
  cases g
  · cases has
    · by_cases hfull : (L n).length = 12
      · have HE := Lib.hid (HG.out.1 rfl rfl hfull)
        have g2 : decide ((12 : Int) ≤ ((L n).length : Int)) = true := by simp; omega
        go_wp2
        go_ret
        exact ⟨by rw [HE.out.1]; rfl, ⟨lv, by rw [HE.out.2, setV_self]; exact H2.out.1⟩, HB2.out⟩
      · have HE := Lib.hid (HG.out.2.1 rfl (.inr hfull))
        have g2 : decide ((12 : Int) ≤ ((L n).length : Int)) = false := by simp; omega
        go_wp2
        go_region_with (first | (go_at_call 114; refine (done_at (d := 1) H2.out hn HV.out hL HR.out (fun h => by cases h)).mono ?_; rintro e w3 ⟨sa3, n3, cp3, rfl, h3⟩; have H3 := Lib.hid h3; obtain ⟨q1, q2, q3⟩ := H3.out.1.cl hn; clear h3))
        all_goals go_wp2
        all_goals go_ret
        all_goals exact ⟨by rw [HE.out.1]; rfl, ⟨_, by rw [HE.out.2]; exact H3.out.1.store hn H3.out.2.1⟩, But.setCell (B := (· = sb)) (But.of_below H3.out.2.2) rfl _ _⟩
    · have HE := Lib.hid (HG.out.2.1 rfl (.inl rfl))
      go_wp2
      go_region_with (first | (go_at_call 114; refine (done_at (d := 1) H2.out hn HV.out hL HR.out (fun h => by cases h)).mono ?_; rintro e w3 ⟨sa3, n3, cp3, rfl, h3⟩; have H3 := Lib.hid h3; obtain ⟨q1, q2, q3⟩ := H3.out.1.cl hn; clear h3))
      all_goals go_wp2
      all_goals go_ret
      all_goals exact ⟨by rw [HE.out.1]; rfl, ⟨_, by rw [HE.out.2]; exact H3.out.1.store hn H3.out.2.1⟩, But.setCell (B := (· = sb)) (But.of_below H3.out.2.2) rfl _ _⟩
  · cases has
    · have HE := Lib.hid (HG.out.2.2.1 rfl rfl)
      go_wp2
      go_ret
      exact ⟨by rw [HE.out.1]; rfl, ⟨lv, by rw [HE.out.2, setV_self]; exact H2.out.1⟩, HB2.out⟩
    · have HE := Lib.hid (HG.out.2.2.2 rfl rfl)
      go_wp2
      go_region_with (first | (go_at_call 114; refine (done_at (d := 1) H2.out hn HV.out hL HR.out (fun _ => HF.out)).mono ?_; rintro e w3 ⟨sa3, n3, cp3, rfl, h3⟩; have H3 := Lib.hid h3; obtain ⟨q1, q2, q3⟩ := H3.out.1.cl hn; clear h3))
      all_goals go_wp2
      all_goals go_ret
      all_goals exact ⟨by rw [HE.out.1]; rfl, ⟨_, by rw [HE.out.2]; exact H3.out.1.store hn H3.out.2.1⟩, But.setCell (B := (· = sb)) (But.of_below H3.out.2.2) rfl _ _⟩
end
end Go.Proofs.YtkpekiajdlolnaaGreat

/-
  CONTRACTS OF THE DOCUMENT's SIDE (lone), sixth text: Change whole; Get.
-/
namespace Go.Proofs.YtkpekiajdlolnaaGreat
open Go.RowKit Go.Maps

section
variable {w : World} {ml sb : Nat} {lv : Nat → Value} {L : Nat → KV}
theorem rchange_c (k v : ByteArray) (g : Bool) (hL : ∀ i, i < 4 → (L i).length ≤ 12) (hri : ∀ i, i < 4 → Rising (L i)) (hm : Mdl w ml sb lv L) :
    Calls Tryz.prog 74 #[.pointer (some ⟨ml, 0, none⟩), .agg #[.string k, .string v, .bool g]] w (MdlPost w ml sb (chState L k.data.toList v.data.toList g) (chAll L k.data.toList v.data.toList g)) := by
  cases hk : keyB k.data.toList
  · refine (rchange_no k v g hk).mono fun e w' ⟨h1, h2⟩ => ?_
    unfold chState chAll
    rw [hk]
    exact ⟨h1, ⟨lv, hm.below h2⟩, .of_below h2⟩
  · have hn := shardOf_lt k.data.toList
    have := rchange_yes k v g _ hn hk rfl (hL _ hn) (hri _ hn) hm
    unfold chState chAll
    rw [hk]
    exact this
/-- at, in the cluster's world. -/
theorem at_mdl {W : World} {n : Nat} {k : ByteArray} {w1 : World} {v : Value} (h : Mdl w1 ml sb lv L) (hb : Below W.heap.size W w1) (hn : n < 4) (hv : lv n = v) (hL : (L n).length ≤ 12) :
    Calls Tryz.prog 113 #[v, .string k] w1 fun e w' => (e = .returned (.tuple #[.int .i64 (atIx (L n) k.data.toList), .bool (atHas (L n) k.data.toList)])) ∧ Mdl w' ml sb lv L ∧ Below W.heap.size W w' := by
  subst hv
  exact (at_row (h.r n hn).1 (by omega) k).mono fun e w' ⟨h1, h2⟩ => ⟨h1, h.below h2, hb.trans (h2.mono hb.size)⟩
set_option maxRecDepth 100000 in
theorem rget_no (k : ByteArray) (h : keyB k.data.toList = false) : Calls Tryz.prog 75 #[.pointer (some ⟨ml, 0, none⟩), .string k] w (GetsPost w [] 2) := by
  go_enter Tryz.func75, Tryz.ntmps75
  go_wp2_with (go_at_call 112; refine (rof_no _ h).mono ?_; rintro e w1 ⟨rfl, hb⟩)
  go_ret2
  exact ⟨rfl, hb⟩
set_option maxRecDepth 100000 in
set_option maxHeartbeats 1000000 in
theorem rget_none (k : ByteArray) (n : Nat) (hn : n < 4) (hk : keyB k.data.toList = true) (hkn : shardOf k.data.toList = n) (hL : (L n).length ≤ 12) (hm : Mdl w ml sb lv L) (hh : atHas (L n) k.data.toList = false) :
    Calls Tryz.prog 75 #[.pointer (some ⟨ml, 0, none⟩), .string k] w (GetsPost w [] 6) := by
  have hn3 : ((n : Int) < 4) := by omega
  have HM := Lib.hid hm
  have HH := Lib.hid hh
  clear hm hh
  go_enter Tryz.func75, Tryz.ntmps75
  go_wp2_with (first
    | (go_at_call 112; refine (rof_yes _ hk).mono ?_; rintro e w1 ⟨rfl, hb⟩; rw [hkn]; have M1 := Lib.hid (HM.out.below hb); have B1 := Lib.hid hb; obtain ⟨cap, ms⟩ := M1.out.s; obtain ⟨m1, m2, m3⟩ := M1.out.cl hn; clear hb)
    | (go_at_call 113; refine (at_mdl M1.out B1.out hn rfl hL).mono ?_; rintro e w2 ⟨rfl, h2⟩; rw [HH.out]; have H2 := Lib.hid h2; clear h2))
  go_ret2
  exact ⟨rfl, H2.out.2⟩
set_option maxRecDepth 100000 in
set_option maxHeartbeats 1000000 in
theorem rget_some (k : ByteArray) (n : Nat) (hn : n < 4) (hk : keyB k.data.toList = true) (hkn : shardOf k.data.toList = n) (hL : (L n).length ≤ 12) (hm : Mdl w ml sb lv L) (hh : atHas (L n) k.data.toList = true) (x : Bs) (hx : (L n)[atIx (L n) k.data.toList]? = some (k.data.toList, x)) :
    Calls Tryz.prog 75 #[.pointer (some ⟨ml, 0, none⟩), .string k] w (GetsPost w x 0) := by
  have hn3 : ((n : Int) < 4) := by omega
  have hlt := (List.getElem?_eq_some_iff.1 hx).1
  obtain ⟨ix, hix⟩ : ∃ i, atIx (L n) k.data.toList = i := ⟨_, rfl⟩
  obtain ⟨g, cp, hv⟩ : ∃ g cp, lv n = .slice (some ⟨g, 0, none⟩) (L n).length cp := by
    rcases (hm.r n hn).1.2 with ⟨_, hz⟩ | ⟨g, cap, cur, h, _⟩
    · omega
    · exact ⟨g, cap, h⟩
  have hc : ∀ w', Below w.heap.size w w' → w'.cell? ⟨g, ix * 2 + 1, none⟩ = some (sv x) := fun w' hb => by
    have h1 := (flat_get (L n) _ _ hx).2
    have h2 := ((hm.below hb).r n hn).1.cells (g := g) (by rw [hv]; rfl) _ _ h1
    rw [Addr.add_lit, Nat.zero_add, hix] at h2
    exact h2
  rw [hix] at hlt
  have HM := Lib.hid hm
  have HH := Lib.hid hh
  have HV := Lib.hid hv
  have HC := Lib.hid hc
  have HI := Lib.hid hix
  have HS : Hid (sv x = .string ⟨x.toArray⟩) := Lib.hid rfl
  generalize hsx : sv x = svx at *
  unfold sv at hsx
  subst hsx
  clear hm hh hv hc hix hx
  go_enter Tryz.func75, Tryz.ntmps75
  go_wp2_with (first
    | (go_at_call 112; refine (rof_yes _ hk).mono ?_; rintro e w1 ⟨rfl, hb⟩; rw [hkn]; have M1 := Lib.hid (HM.out.below hb); have B1 := Lib.hid hb; obtain ⟨cap, ms⟩ := M1.out.s; have m1 := (M1.out.cl hn).1; rw [HV.out] at m1; clear hb)
    | (go_at_call 113; refine (at_mdl M1.out B1.out hn HV.out hL).mono ?_; rintro e w2 ⟨rfl, h2⟩; rw [HH.out, HI.out]; have H2 := Lib.hid h2; obtain ⟨cap2, ms2⟩ := H2.out.1.s; have m2 := (H2.out.1.cl hn).1; rw [HV.out] at m2; have c2 := HC.out _ H2.out.2; clear h2))
  go_ret2
  exact ⟨rfl, H2.out.2⟩
theorem rget_c (k : ByteArray) (hL : ∀ i, i < 4 → (L i).length ≤ 12) (hri : ∀ i, i < 4 → Rising (L i)) (hm : Mdl w ml sb lv L) :
    Calls Tryz.prog 75 #[.pointer (some ⟨ml, 0, none⟩), .string k] w (GetsPost w (getV L k.data.toList) (getE L k.data.toList)) := by
  unfold getV getE
  cases hk : keyB k.data.toList
  · exact rget_no k hk
  · have hn := shardOf_lt k.data.toList
    obtain ⟨a1, a2, a3, _⟩ := at_spec (hri _ hn) k.data.toList
    cases hx : kvFind (L (shardOf k.data.toList)) k.data.toList with
    | none => exact rget_none k _ hn hk rfl (hL _ hn) hm (by rw [a2, hx]; rfl)
    | some x => exact rget_some k _ hn hk rfl (hL _ hn) hm (by rw [a2, hx]; rfl) x (a3 x hx)
end
end Go.Proofs.YtkpekiajdlolnaaGreat

/-
  CONTRACTS OF THE LAW's OWN FUNCTIONS (lone), first text: pick, stage, same.
-/
namespace Go.Proofs.YtkpekiajdlolnaaGreat
open Go.RowKit Go.Maps

section
variable {w : World}
def pickN (a : Int) (n : Nat) : Nat := ((if a < 0 then -(a + 1) else a).toNat) % n
set_option maxRecDepth 100000 in
theorem pick_c (a : Int) (n : Nat) (hn : 0 < n) (hn2 : n ≤ 4398046511104) (h1 : -9223372036854775808 ≤ a) (h2 : a ≤ 9223372036854775807) :
    Calls Tryz.prog 73 #[.int .i64 a, .int .i64 n] w fun e w' => (e = .returned (.int .i64 (pickN a n : Nat)) ∧ w' = w) := by
  have hn0 : ¬ n = 0 := by omega
  by_cases h : a < 0
  · have g1 : decide (a < 0) = true := decide_eq_true h
    obtain ⟨b, hb⟩ : ∃ b : Nat, -(a + 1) = b := ⟨(-(a + 1)).toNat, by omega⟩
    have hp : pickN a n = b % n := by unfold pickN; rw [if_pos h, hb]; rfl
    rw [hp]
    obtain rfl : a = -(b : Int) - 1 := by omega
    clear hp hb
    go_enter Tryz.func73, Tryz.ntmps73
    go_wp2
    go_ret
    exact ⟨rfl, rfl⟩
  · have g1 : decide (a < 0) = false := decide_eq_false h
    obtain ⟨b, rfl⟩ : ∃ b : Nat, a = b := ⟨a.toNat, by omega⟩
    have hp : pickN b n = b % n := by unfold pickN; rw [if_neg h]; rfl
    rw [hp]
    clear hp
    go_enter Tryz.func73, Tryz.ntmps73
    go_wp2
    go_ret
    exact ⟨rfl, rfl⟩
set_option maxRecDepth 100000 in
theorem stage_le (k : Int) (h : k ≤ 5) : Calls Tryz.prog 46 #[.int .i64 k] w fun e w' => (e = .returned (.int .i64 1) ∧ w' = w) := by
  have g1 : decide (k ≤ 5) = true := decide_eq_true h
  go_enter Tryz.func46, Tryz.ntmps46
  go_wp2
  go_ret
  exact ⟨rfl, rfl⟩
set_option maxRecDepth 100000 in
theorem stage_gt (k : Int) (h : 5 < k) : Calls Tryz.prog 46 #[.int .i64 k] w fun e w' => ((∃ s : Int, 1 < s ∧ s ≤ 4 ∧ e = .returned (.int .i64 s)) ∧ w' = w) := by
  have g1 : decide (k ≤ 5) = false := decide_eq_false (by omega)
  by_cases h9 : k ≤ 9
  · have g2 : decide (k ≤ 9) = true := decide_eq_true h9
    go_enter Tryz.func46, Tryz.ntmps46
    go_wp2
    go_ret
    exact ⟨⟨2, by omega, by omega, rfl⟩, rfl⟩
  · have g2 : decide (k ≤ 9) = false := decide_eq_false h9
    by_cases h10 : k = 10
    · subst h10
      go_enter Tryz.func46, Tryz.ntmps46
      go_wp2
      go_ret
      exact ⟨⟨3, by omega, by omega, rfl⟩, rfl⟩
    · by_cases h12 : k = 12
      · subst h12
        go_enter Tryz.func46, Tryz.ntmps46
        go_wp2
        go_ret
        exact ⟨⟨3, by omega, by omega, rfl⟩, rfl⟩
      · have g3 : decide (k = 10) = false := decide_eq_false h10
        have g4 : decide (k = 12) = false := decide_eq_false h12
        have g5 : (k == 10) = false := by simpa using h10
        have g6 : (k == 12) = false := by simpa using h12
        go_enter Tryz.func46, Tryz.ntmps46
        go_wp2
        go_ret
        exact ⟨⟨4, by omega, by omega, rfl⟩, rfl⟩
/-- two rows of pairs that read alike are the same. -/
theorem row_cells {v : Value} {l : KV} {base : Nat} (h : w.ownsRow base 62 2 v l.length (flat l)) {g : Nat} (hg : v.ownBlock = some g) {j : Nat} {p : Bs × Bs} (hp : l[j]? = some p) : w.cell? ⟨g, j * 2, none⟩ = some (sv p.1) ∧ w.cell? ⟨g, j * 2 + 1, none⟩ = some (sv p.2) := by
  obtain ⟨q1, q2⟩ := flat_get l j p hp
  have d1 := h.cells hg _ _ q1
  have d2 := h.cells hg _ _ q2
  rw [Addr.add_lit, Nat.zero_add] at d1 d2
  exact ⟨d1, d2⟩
set_option maxRecDepth 100000 in
set_option maxHeartbeats 1000000 in
theorem same_c {a b : Value} {l : KV} {ba bb : Nat} (ha : w.ownsRow ba 62 2 a l.length (flat l)) (hb : w.ownsRow bb 62 2 b l.length (flat l)) (hl : l.length ≤ 1073741824) : Calls Tryz.prog 77 #[a, b] w fun e w' => (e = .returned (.bool true) ∧ Below w.heap.size w w') := by
  obtain ⟨sa, ca, rfl⟩ : ∃ sa ca, a = .slice sa l.length ca := by
    rcases ha.2 with ⟨rfl, hz⟩ | ⟨g, cap, cur, rfl, _⟩
    · exact ⟨none, 0, by rw [hz]⟩
    · exact ⟨_, _, rfl⟩
  obtain ⟨sb, cb, rfl⟩ : ∃ sa ca, b = .slice sa l.length ca := by
    rcases hb.2 with ⟨rfl, hz⟩ | ⟨g, cap, cur, rfl, _⟩
    · exact ⟨none, 0, by rw [hz]⟩
    · exact ⟨_, _, rfl⟩
  have hsa : ∀ j, j < l.length → ∃ g, sa = some ⟨g, 0, none⟩ := fun j hj => by
    rcases ha.2 with ⟨h, hz⟩ | ⟨g, cap, cur, h, _⟩
    · omega
    · injection h with h1; exact ⟨g, h1⟩
  have hsb : ∀ j, j < l.length → ∃ g, sb = some ⟨g, 0, none⟩ := fun j hj => by
    rcases hb.2 with ⟨h, hz⟩ | ⟨g, cap, cur, h, _⟩
    · omega
    · injection h with h1; exact ⟨g, h1⟩
  have HA := Lib.hid ha
  have HB := Lib.hid hb
  have HSA := Lib.hid hsa
  have HSB := Lib.hid hsb
  clear ha hb hsa hsb
  by_cases hz : l.length = 0
  · rw [hz]
    clear HA HB HSA HSB
    go_enter Tryz.func77, Tryz.ntmps77
    go_wp2
    refine wp_loop_rounds 1 ?_
    rw [rounds_succ]
    go_wp2
    go_ret
    exact ⟨rfl, Below.refl _ _⟩
  obtain ⟨ga, rfl⟩ := HSA.out 0 (by omega)
  obtain ⟨gb, rfl⟩ := HSB.out 0 (by omega)
  clear HSA HSB
  go_enter Tryz.func77, Tryz.ntmps77
  go_wp2
  go_loopw [13] (fun x wr => ∃ j : Nat, j ≤ l.length ∧ x = .int .i64 j ∧ Below w.heap.size w wr) (fun x _ => l.length - (intOf x).toNat)
  case atStart => exact ⟨0, Nat.zero_le _, rfl, Below.refl _ _⟩
  case round =>
    obtain ⟨j, hj, rfl, hbw⟩ := hrel
    by_cases hjl : j < l.length
    · obtain ⟨p, hp⟩ : ∃ p, l[j]? = some p := ⟨_, List.getElem?_eq_getElem hjl⟩
      obtain ⟨a1, a2⟩ := row_cells HA.out (g := ga) rfl hp
      obtain ⟨b1, b2⟩ := row_cells HB.out (g := gb) rfl hp
      have a1 := (hbw.cell (World.block_lt_of_cell? w _ a1)).trans a1
      have a2 := (hbw.cell (World.block_lt_of_cell? w _ a2)).trans a2
      have b1 := (hbw.cell (World.block_lt_of_cell? w _ b1)).trans b1
      have b2 := (hbw.cell (World.block_lt_of_cell? w _ b2)).trans b2
      unfold sv at a1 a2 b1 b2
      generalize (⟨p.1.toArray⟩ : ByteArray) = pk at *
      generalize (⟨p.2.toArray⟩ : ByteArray) = pv at *
      have hjz : (0 : Int) ≤ (j : Int) := by omega
      have hji : (j : Int) < ((l.length : Nat) : Int) := by omega
      go_wp2
      go_quiet (fail)
      go_wp2
      go_roundw
      case rel => exact ⟨j + 1, by omega, rfl, Below.drewN' hbw _⟩
      case measure => simp [intOf]; omega
    · obtain rfl : j = l.length := by omega
      go_wp2
      go_ret
      exact ⟨rfl, hbw⟩
end
end Go.Proofs.YtkpekiajdlolnaaGreat

/-
  CONTRACTS OF THE LAW's OWN FUNCTIONS (lone), second text: mark, mine.
-/
namespace Go.Proofs.YtkpekiajdlolnaaGreat
open Go.RowKit Go.Maps

section
variable {n0 : Nat} {CS : Value} {w : World}
set_option maxRecDepth 100000 in
theorem mark_c (k : Nat) (hk : k ≤ 4398046511104) : Calls Tryz.prog 84 #[.int .i64 k] w fun e w' => (∃ a b : ByteArray, e = .returned (.agg #[.string a, .string b])) ∧ Below w.heap.size w w' := by
  obtain ⟨a0, h0⟩ : ∃ b : UInt8, (b.toNat : Int) = (k : Int) % 256 := ⟨UInt8.ofNat (k % 256), by simp⟩
  obtain ⟨a1, h1⟩ : ∃ b : UInt8, (b.toNat : Int) = (k : Int) / 256 % 256 := ⟨UInt8.ofNat (k / 256 % 256), by simp⟩
  obtain ⟨a2, h2⟩ : ∃ b : UInt8, (b.toNat : Int) = (k : Int) / 65536 % 256 := ⟨UInt8.ofNat (k / 65536 % 256), by simp⟩
  have hcv : (convert 26 9 (.slice (some ⟨w.heap.size + 1, 0, none⟩) 3 3)).run Tryz.prog ((w.alloc (.cells #[.string ⟨#[]⟩, .string ⟨#[]⟩] 62)).alloc (.cells #[.int .u8 ((k : Int) % 256), .int .u8 ((k : Int) / 256 % 256), .int .u8 ((k : Int) / 65536 % 256)] 5)) = .ok (.string ⟨#[a0, a1, a2]⟩) _ :=
    run_convert_bytes_back (P := Tryz.prog) _ 26 9 5 ⟨w.heap.size + 1, 0, none⟩ 3 [a0, a1, a2] Tryz.underlying26 Tryz.underlying5 Tryz.underlying9 (fun j hj => by
      rw [Addr.add_lit, Nat.zero_add]
      match j, hj with
      | 0, _ => rw [show ([a0, a1, a2][0].toNat : Int) = _ from h0]; go_simp
      | 1, _ => rw [show ([a0, a1, a2][1].toNat : Int) = _ from h1]; go_simp
      | 2, _ => rw [show ([a0, a1, a2][2].toNat : Int) = _ from h2]; go_simp)
  clear h0 h1 h2
  go_enter Tryz.func84, Tryz.ntmps84
  go_wp2
  refine bodyPost_ret (v := .agg #[.string ⟨#[109, 105, 110, 101]⟩, .string ⟨#[a0, a1, a2]⟩]) (by simp [results, Tryz.results84, go_sem]) rfl ⟨⟨_, _, rfl⟩, ((Below.refl _ _).alloc (Nat.le_refl _) _).alloc (by simp) _⟩
/-- the law's world: the lists that were handed out. -/
structure LsAt (n0 : Nat) (w : World) (W : Nat) (CS S : Value) (n : Nat) : Prop where
  b : ∃ cur, w.heap[W]? = some (.cells cur 105 (0, 0)) ∧ cur[2]? = some S ∧ cur[0]? = some CS ∧ cur[3]? = some (.bool false)
  row : ∃ xs, w.ownsRow n0 29 1 S n xs
theorem LsAt.cell {W : Nat} {S : Value} {n : Nat} (h : LsAt n0 w W CS S n) : w.cell? ⟨W, 2, none⟩ = some S ∧ w.frozen? ⟨W, 2, none⟩ = false ∧ W < w.heap.size := by
  obtain ⟨cur, h1, h2, h2b⟩ := h.b
  exact ⟨by simp [World.cell?, h1, h2], by simp [World.frozen?, h1], (Array.getElem?_eq_some_iff.1 h1).1⟩
theorem ownsRow_block {w w' : World} {base n size : Nat} {ty : TypeId} {v : Value} {xs : List Value} (h : w.ownsRow base ty size v n xs) (k : ∀ g, v.ownBlock = some g → w'.heap[g]? = w.heap[g]?) : w'.ownsRow base ty size v n xs := by
  refine ⟨h.1, h.2.imp id ?_⟩
  rintro ⟨g, cap, cur, rfl, h1, h2, h3⟩
  exact ⟨g, cap, cur, rfl, h1, (k g rfl).trans h2, h3⟩
theorem LsAt.block {w w' : World} {W : Nat} {S : Value} {n : Nat} (h : LsAt n0 w W CS S n) (hW : w'.heap[W]? = w.heap[W]?) (hS : ∀ g, S.ownBlock = some g → w'.heap[g]? = w.heap[g]?) : LsAt n0 w' W CS S n := by
  obtain ⟨cur, h1, h2, h2b⟩ := h.b
  obtain ⟨xs, h3⟩ := h.row
  exact ⟨⟨cur, hW.trans h1, h2, h2b⟩, xs, ownsRow_block h3 hS⟩
theorem row_ty {w : World} {base n size : Nat} {ty : TypeId} {v : Value} {xs : List Value} (h : w.ownsRow base ty size v n xs) {g : Nat} (hg : v.ownBlock = some g) : ∃ cur, w.heap[g]? = some (.cells cur ty (0, 0)) := by
  rcases h.2 with ⟨rfl, _⟩ | ⟨g', cap, cur, rfl, _, h2, _⟩
  · cases hg
  · cases hg; exact ⟨cur, h2⟩
/-- which blocks 'mine' writes. -/
def MineB (W : Nat) (S l : Value) (b : Nat) : Prop := b = W ∨ S.ownBlock = some b ∨ l.ownBlock = some b
/-- the loop's standing. -/
structure MnW (n0 : Nat) (CS : Value) (w0 : World) (W n m base g cap k : Nat) (S : Value) (x y : ByteArray) (w : World) : Prop where
  ls : LsAt n0 w W CS S n
  row : ∃ xs, w.ownsRow base 62 2 (.slice (some ⟨g, 0, none⟩) m cap) m xs
  mrk : w.heap[k]? = some (.cells #[.string x, .string y] 62 (0, 0))
  gk : g < k
  but : But (MineB W S (.slice (some ⟨g, 0, none⟩) m cap)) w0 w
section
variable {w0 : World} {W n m base g cap k : Nat} {S : Value} {x y : ByteArray}
theorem MnW.cells (h : MnW n0 CS w0 W n m base g cap k S x y w) (j : Nat) (hj : j < m) : (∃ v, w.cell? ⟨g, j * 2, none⟩ = some v) ∧ (∃ v, w.cell? ⟨g, j * 2 + 1, none⟩ = some v) ∧ w.frozen? ⟨g, j * 2, none⟩ = false ∧ w.frozen? ⟨g, j * 2 + 1, none⟩ = false ∧ w.cell? ⟨k, 0, none⟩ = some (.string x) ∧ w.cell? ⟨k, 1, none⟩ = some (.string y) := by
  obtain ⟨xs, h1⟩ := h.row
  rcases h1.2 with ⟨e, _⟩ | ⟨g', cap', cur, e, _, h2, h3, _, h5, _⟩
  · cases e
  · injection e with e1 e2 e3
    injection e1 with e1
    injection e1 with e1
    subst e1; subst e3
    have a1 : j * 2 < cur.size := by omega
    have a2 : j * 2 + 1 < cur.size := by omega
    exact ⟨⟨cur[j * 2], by simp [World.cell?, h2, a1]⟩, ⟨cur[j * 2 + 1], by simp [World.cell?, h2, a2]⟩, by simp [World.frozen?, h2], by simp [World.frozen?, h2], by simp [World.cell?, h.mrk], by simp [World.cell?, h.mrk]⟩
theorem MnW.stored (h : MnW n0 CS w0 W n m base g cap k S x y w) (j : Nat) (hj : j < m) : MnW n0 CS w0 W n m base g cap k S x y ((w.setCell ⟨g, j * 2, none⟩ (.string x)).setCell ⟨g, j * 2 + 1, none⟩ (.string y)) := by
  obtain ⟨xs, h1⟩ := h.row
  rcases h1.2 with ⟨e, _⟩ | ⟨g', cap', cur, e, hb, h2, h3, h4, h5, h6⟩
  · cases e
  · injection e with e1 e2 e3
    injection e1 with e1
    injection e1 with e1
    subst e1; subst e3
    have s1 := heap_setCell_same w g (j * 2) cur _ (.string x) h2
    have s2 := heap_setCell_same _ g (j * 2 + 1) _ _ (.string y) s1
    have ho : ∀ b, b ≠ g → ((w.setCell ⟨g, j * 2, none⟩ (.string x)).setCell ⟨g, j * 2 + 1, none⟩ (.string y)).heap[b]? = w.heap[b]? := fun b hb => by
      rw [heap_setCell_other _ _ _ _ hb, heap_setCell_other _ _ _ _ hb]
    obtain ⟨cw, hw1, _, _⟩ := h.ls.b
    refine ⟨h.ls.block (ho W fun e => by rw [e, h2] at hw1; cases hw1) (fun g' hg' => ho g' fun e => ?_), ⟨_, ?_, .inr ⟨g, cap, _, rfl, hb, s2, h3, h4, by simp [h5], rfl⟩⟩, (ho k (by have := h.gk; omega)).trans h.mrk, h.gk, (h.but.setCell (.inr (.inr rfl)) _ _).setCell (.inr (.inr rfl)) _ _⟩
    · obtain ⟨zs, hz⟩ := h.ls.row
      obtain ⟨cz, hc⟩ := row_ty hz hg'
      rw [e, h2] at hc
      cases hc
    · rw [List.length_take]; simp; omega
end
theorem Src.two (w : World) (a b c d : ByteArray) (ty : TypeId) : Src (w.alloc (.cells #[.string a, .string b, .string c, .string d] ty)) (some ⟨w.heap.size, 0, none⟩) 2 [.string a, .string b, .string c, .string d] := by
  refine ⟨rfl, fun ad e j u hj => ?_, fun h => (by cases h), fun u hu => by simp at hu; rcases hu with rfl | rfl | rfl | rfl <;> exact ⟨_, rfl⟩⟩
  cases e
  rw [Addr.add_lit, Nat.zero_add]
  match j, hj with
  | 0, hj => simp at hj; subst hj; go_simp
  | 1, hj => simp at hj; subst hj; go_simp
  | 2, hj => simp at hj; subst hj; go_simp
  | 3, hj => simp at hj; subst hj; go_simp
theorem listInfo : ∃ i, Tryz.prog.info? 29 = some i ∧ i.zero = some (.slice none 0 0) ∧ i.size = 1 ∧ i.bytes = 24 := by
  have h : (Tryz.prog.info? 29).map (fun i => (i.zero, i.size, i.bytes)) = some (some (.slice none 0 0), 1, 24) := by kernel_rfl
  obtain ⟨i, h1, h2⟩ := Option.map_eq_some_iff.1 h
  injection h2 with h2 h3
  injection h3 with h3 h4
  exact ⟨i, h1, h2, h3, h4⟩
theorem cell1 (w : World) (a : Value) (ty : TypeId) : ∀ (j : Nat) (u : Value), [a][j]? = some u → (w.alloc (.cells #[a] ty)).cell? ((⟨w.heap.size, 0, none⟩ : Addr).add j) = some u := fun j u hj => by
  rw [Addr.add_lit, Nat.zero_add]
  match j, hj with
  | 0, hj => simp at hj; subst hj; go_simp
theorem shape_of {w : World} {base n size : Nat} {ty : TypeId} {v : Value} {xs : List Value} (h : w.ownsRow base ty size v n xs) : ∃ sa cp, v = .slice sa n cp := by
  rcases h.2 with ⟨rfl, hz⟩ | ⟨g, cap, cur, rfl, _⟩
  · exact ⟨none, 0, by rw [hz]⟩
  · exact ⟨_, _, rfl⟩
/-- the list of lists has grown. -/
theorem LsAt.grow {w w3 : World} {W n : Nat} {S v3 l : Value} {o : Obj} {xs : List Value} (h : LsAt n0 w W CS S n) (hg : (w.alloc o).grownBy w3 S.ownBlock) (hr : w3.ownsRow n0 29 1 v3 (n + 1) xs) :
    w3.cell? ⟨W, 2, none⟩ = some S ∧ w3.frozen? ⟨W, 2, none⟩ = false ∧ LsAt n0 (w3.setCell ⟨W, 2, none⟩ v3) W CS v3 (n + 1) ∧ But (MineB W S l) w (w3.setCell ⟨W, 2, none⟩ v3) := by
  obtain ⟨cur, h1, h2, h2b⟩ := h.b
  obtain ⟨zs, h3⟩ := h.row
  have hlt := h.cell.2.2
  have hne : some W ≠ S.ownBlock := fun e => by
    obtain ⟨c, hc⟩ := row_ty h3 e.symm
    rw [h1] at hc; cases hc
  have hb3 : w3.heap[W]? = some (.cells cur 105 (0, 0)) := (hg.block W (by simp; omega) hne).trans ((heap_alloc_old w o hlt).trans h1)
  refine ⟨by simp [World.cell?, hb3, h2], by simp [World.frozen?, hb3], ⟨⟨_, heap_setCell_same w3 W 2 cur _ _ hb3, by rw [Array.getElem?_setIfInBounds_self_of_lt ((Array.getElem?_eq_some_iff.1 h2).1)], by rw [Array.getElem?_setIfInBounds_ne (by omega), h2b.1], by rw [Array.getElem?_setIfInBounds_ne (by omega), h2b.2]⟩, xs, ownsRow_block hr fun g hgg => heap_setCell_other _ _ _ _ fun e => ?_⟩, But.setCell (B := MineB W S l) ⟨by have := hg.size; simp at this; omega, fun b hb hn => ?_, (by rw [hg.os]; rfl), (by rw [hg.output]; rfl)⟩ (.inl rfl) _ _⟩
  · obtain ⟨c, hc⟩ := row_ty hr hgg
    rw [show g = W from e, hb3] at hc; cases hc
  · exact (hg.block b (by simp; omega) fun e => hn (.inr (.inl e.symm))).trans (heap_alloc_old w o hb)
theorem LsAt.app {w w2 : World} {W n : Nat} {S l : Value} {o : Obj} {m base : Nat} {xs : List Value} (h : LsAt n0 w W CS S n) (hl : (w.alloc o).ownsRow base 62 2 l m xs) (hg : (w.alloc o).grownBy w2 l.ownBlock) : LsAt n0 w2 W CS S n ∧ But (MineB W S l) w w2 := by
  obtain ⟨cur, h1, h2, h2b⟩ := h.b
  obtain ⟨zs, h3⟩ := h.row
  have key : ∀ (b : Nat) (c : Array Value) (ty : TypeId), w.heap[b]? = some (Obj.cells c ty (0, 0)) → ty ≠ 62 → w2.heap[b]? = w.heap[b]? := fun b c ty hb hne => by
    have hlt := (Array.getElem?_eq_some_iff.1 hb).1
    refine (hg.block b (by simp; omega) fun e => ?_).trans (heap_alloc_old w o hlt)
    obtain ⟨c', hc⟩ := row_ty hl e.symm
    rw [heap_alloc_old w o hlt, hb] at hc
    have e2 : Obj.cells c ty (0, 0) = Obj.cells c' 62 (0, 0) := Option.some.inj hc
    injection e2 with _ e3
    exact hne e3
  refine ⟨h.block (key W _ _ h1 (by decide)) fun g hgg => ?_, ⟨by have := hg.size; simp at this; omega, fun b hb hn => (hg.block b (by simp; omega) fun e => hn (.inr (.inr e.symm))).trans (heap_alloc_old w o hb), (by rw [hg.os]; rfl), (by rw [hg.output]; rfl)⟩⟩
  obtain ⟨c, hc⟩ := row_ty h3 hgg
  exact key g _ _ hc (by decide)
set_option maxRecDepth 100000 in
set_option maxHeartbeats 1000000 in
theorem mine_some {W n m base g cap : Nat} {S : Value} {xs : List Value} (h : LsAt n0 w W CS S n) (hn : n ≤ 4398046511103) (hl : w.ownsRow base 62 2 (.slice (some ⟨g, 0, none⟩) m cap) m xs) (hm : m ≤ 1073741820) (hlo : n0 ≤ w.heap.size) :
    Calls Tryz.prog 78 #[.pointer (some ⟨W, 0, none⟩), .slice (some ⟨g, 0, none⟩) m cap] w fun e w' => (e = .returned (.tuple #[])) ∧ (∃ S', LsAt n0 w' W CS S' (n + 1)) ∧ But (MineB W S (.slice (some ⟨g, 0, none⟩) m cap)) w w' := by
  obtain ⟨c1, c2, c3⟩ := h.cell
  obtain ⟨S1, S2, hS⟩ : ∃ sa cp, S = .slice sa n cp := by
    obtain ⟨xs, h⟩ := h.row
    rcases h.2 with ⟨rfl, hz⟩ | ⟨g, cap, cur, rfl, _⟩
    · exact ⟨none, 0, by rw [hz]⟩
    · exact ⟨_, _, rfl⟩
  subst hS
  have HL := Lib.hid h
  have HR := Lib.hid hl
  have HLO := Lib.hid hlo
  clear h hl hlo
  go_enter Tryz.func78, Tryz.ntmps78
  go_wp2_with (go_at_call 84; refine (mark_c n (by omega)).mono ?_; rintro e w1 ⟨⟨ma, mb, rfl⟩, hb1⟩; have HB1 := Lib.hid hb1; clear hb1)
  go_loopw [15] (fun x wr => ∃ j : Nat, j ≤ m ∧ x = .int .i64 j ∧ Hid (MnW n0 CS w W n m base g cap w1.heap.size (.slice S1 n S2) ma mb wr)) (fun x _ => m - (intOf x).toNat)
  case atStart =>
    have hb := HB1.out.alloc HB1.out.size (.cells #[.string ma, .string mb] 62)
    have hg : g < w.heap.size := (HR.out.lt g rfl).2
    refine ⟨0, Nat.zero_le _, rfl, Lib.hid ⟨HL.out.block (hb.block W c3) (fun g' hg' => hb.block g' (let ⟨_, hz⟩ := HL.out.row; (hz.lt g' hg').2)), ⟨xs, ownsRow_block HR.out fun g' hg' => by cases hg'; exact hb.block g hg⟩, heap_alloc_new _ _, Nat.lt_of_lt_of_le hg HB1.out.size, .of_below hb⟩⟩
  case round =>
    obtain ⟨j, hj, rfl, HM⟩ := hrel
    by_cases hjl : j < m
    · obtain ⟨⟨v0, d0⟩, ⟨v1, d1⟩, f0, f1, k0, k1⟩ := HM.out.cells j hjl
      have HN := Lib.hid (HM.out.stored j hjl)
      go_wp2
      go_roundw
      case rel => exact ⟨j + 1, by omega, rfl, HN⟩
      case measure => simp [intOf]; omega
    · obtain rfl : j = m := by omega
      have k0 : wr.cell? ⟨w1.heap.size, 0, none⟩ = some (.string ma) := by simp [World.cell?, HM.out.mrk]
      have k1 : wr.cell? ⟨w1.heap.size, 1, none⟩ = some (.string mb) := by simp [World.cell?, HM.out.mrk]
      obtain ⟨zs, hz⟩ := HM.out.row
      obtain ⟨ys, hy⟩ := HM.out.ls.row
      have HSZ := Lib.hid HM.out.but.size
      have HZ := Lib.hid hz
      have HY := Lib.hid hy
      clear hz hy
      obtain ⟨li, l1, l2, l3, l4⟩ := listInfo
      have HI := Lib.hid (And.intro l1 (And.intro l2 (And.intro l3 l4)))
      clear l1 l2 l3 l4
      obtain ⟨pi, l1, l2, l3, l4⟩ := pairInfoL
      have HP := Lib.hid (And.intro l1 (And.intro l2 (And.intro l3 l4)))
      clear l1 l2 l3 l4
      go_wp2_with (first
        | (at_builtin; (refine wpList_append_own _ rfl (.tmp 23) (.tmp 26) 29 rfl base 62 pi _ 2 32 Tryz.underlying29 HP.out.1 HP.out.2.1 HP.out.2.2.1 HP.out.2.2.2 rfl (by decide) (.slice (some ⟨g, 0, none⟩) j cap) j zs rfl (HZ.out.alloc _) ⟨wr.heap.size, 0, none⟩ 2 2 [.string ma, .string mb, .string ma, .string mb] rfl rfl ((Src.two wr ma mb ma mb _).cell _ rfl) (by intro u hu; simp at hu; rcases hu with rfl | rfl | rfl | rfl <;> rfl) (by unfold maxLen; omega) (by omega) (by have := (HZ.out.lt g rfl).1; have := (HZ.out.lt g rfl).2; simp; omega) ?_; intro v2 w2 hrow2 hg2 _; obtain ⟨sa2, cp2, hv2⟩ := shape_of hrow2; have H2 := Lib.hid (HM.out.ls.app (HZ.out.alloc _) hg2); obtain ⟨d2, e2, _⟩ := H2.out.1.cell; rw [hv2]; clear hrow2 hg2 hv2))
        | (at_builtin; (obtain ⟨qs, hq⟩ := H2.out.1.row; refine wpList_append_own _ rfl (.tmp 31) (.tmp 33) 103 rfl n0 29 li _ 1 24 Tryz.underlying103 HI.out.1 HI.out.2.1 HI.out.2.2.1 HI.out.2.2.2 rfl (by decide) (.slice S1 n S2) n qs rfl (hq.alloc _) ⟨w2.heap.size, 0, none⟩ 1 1 [.slice sa2 (j + 2) cp2] rfl rfl (cell1 w2 _ _) (by intro u hu; simp at hu; subst hu; rfl) (by unfold maxLen; omega) (by omega) (by have a0 := HLO.out; have a1 := HSZ.out; have a2 := H2.out.2.size; simp; omega) ?_; intro v3 w3 hrow3 hg3 _; obtain ⟨sa3, cp3, hv3⟩ := shape_of hrow3; have H3 := Lib.hid (H2.out.1.grow (l := .slice (some ⟨g, 0, none⟩) j cap) hg3 hrow3); rw [hv3] at H3; obtain ⟨d3, e3, _⟩ := H3.out; rw [hv3]; clear hrow3 hg3 hv3 hq)))
      go_end0
      exact ⟨rfl, ⟨_, H3.out.2.2.1⟩, (HM.out.but.trans H2.out.2).trans H3.out.2.2.2⟩
set_option maxRecDepth 100000 in
set_option maxHeartbeats 1000000 in
theorem mine_nil {W n : Nat} {S : Value} (h : LsAt n0 w W CS S n) (hn : n ≤ 4398046511103) (hlo : n0 ≤ w.heap.size) :
    Calls Tryz.prog 78 #[.pointer (some ⟨W, 0, none⟩), .slice none 0 0] w fun e w' => (e = .returned (.tuple #[])) ∧ (∃ S', LsAt n0 w' W CS S' (n + 1)) ∧ But (MineB W S (.slice none 0 0)) w w' := by
  obtain ⟨c1, c2, c3⟩ := h.cell
  obtain ⟨S1, S2, hS⟩ : ∃ sa cp, S = .slice sa n cp := by
    obtain ⟨xs, h⟩ := h.row
    exact shape_of h
  subst hS
  have HL := Lib.hid h
  have HLO := Lib.hid hlo
  clear h hlo
  obtain ⟨li, l1, l2, l3, l4⟩ := listInfo
  have HI := Lib.hid (And.intro l1 (And.intro l2 (And.intro l3 l4)))
  clear l1 l2 l3 l4
  go_enter Tryz.func78, Tryz.ntmps78
  go_wp2_with (go_at_call 84; refine (mark_c n (by omega)).mono ?_; rintro e w1 ⟨⟨ma, mb, rfl⟩, hb1⟩; have HB1 := Lib.hid hb1; clear hb1)
  refine wp_loop_rounds 1 ?_
  rw [rounds_succ]
  have hb := HB1.out.alloc HB1.out.size (.cells #[.string ma, .string mb] 62)
  have HL1 : Hid (LsAt n0 (w1.alloc (.cells #[.string ma, .string mb] 62)) W CS (.slice S1 n S2) n) := Lib.hid (HL.out.block (hb.block W c3) (fun g' hg' => hb.block g' (let ⟨_, hz⟩ := HL.out.row; (hz.lt g' hg').2)))
  have HSZ := Lib.hid hb.size
  have HB2 := Lib.hid (But.of_below (B := MineB W (.slice S1 n S2) (.slice none 0 0)) hb)
  clear hb
  have k0 : (w1.alloc (.cells #[.string ma, .string mb] 62)).cell? ⟨w1.heap.size, 0, none⟩ = some (.string ma) := by go_simp
  have k1 : (w1.alloc (.cells #[.string ma, .string mb] 62)).cell? ⟨w1.heap.size, 1, none⟩ = some (.string mb) := by go_simp
  generalize w1.alloc (.cells #[.string ma, .string mb] 62) = wr at *
  go_wp2_with (first
    | (at_builtin; refine wpList_app (v := .slice none 0 0) (base := 0) rfl (.tmp 23) (.tmp 26) rfl rfl rfl (World.ownsRow_nil _ _ _ _) (AllS.nil _) (Src.two _ ma mb ma mb _) (by omega) (Nat.zero_le _) ?_; intro v2 w2 hrow2 hall2 hg2; obtain ⟨sa2, cp2, hv2⟩ := shape_of hrow2; have H2 := Lib.hid (HL1.out.app (World.ownsRow_nil _ 0 _ _) hg2); obtain ⟨d2, e2, _⟩ := H2.out.1.cell; rw [Nat.zero_add] at hv2; rw [hv2]; clear hrow2 hall2 hg2 hv2)
    | (at_builtin; (obtain ⟨qs, hq⟩ := H2.out.1.row; refine wpList_append_own _ rfl (.tmp 31) (.tmp 33) 103 rfl n0 29 li _ 1 24 Tryz.underlying103 HI.out.1 HI.out.2.1 HI.out.2.2.1 HI.out.2.2.2 rfl (by decide) (.slice S1 n S2) n qs rfl (hq.alloc _) ⟨w2.heap.size, 0, none⟩ 1 1 [.slice sa2 2 cp2] rfl rfl (cell1 w2 _ _) (by intro u hu; simp at hu; subst hu; rfl) (by unfold maxLen; omega) (by omega) (by have a0 := HLO.out; have a1 := HSZ.out; have a2 := H2.out.2.size; simp; omega) ?_; intro v3 w3 hrow3 hg3 _; obtain ⟨sa3, cp3, hv3⟩ := shape_of hrow3; have H3 := Lib.hid (H2.out.1.grow (l := .slice none 0 0) hg3 hrow3); rw [hv3] at H3; obtain ⟨d3, e3, _⟩ := H3.out; rw [hv3]; clear hrow3 hg3 hv3 hq)))
  go_end0
  exact ⟨rfl, ⟨_, H3.out.2.2.1⟩, (HB2.out.trans H2.out.2).trans H3.out.2.2.2⟩
end
end Go.Proofs.YtkpekiajdlolnaaGreat

/-
  CONTRACTS (lone), sixth text: the library's slices.Sorted(maps.Keys(m)), laid at this program.
-/
namespace Go.Proofs
open Go.RowKit Go.Maps Go.Sort Go.Shelf

shelf_lay_g SlLaysZ.n7 Ggz 7 at Tryz 90 as Tryz.keysOf
shelf_lay_g SlLaysZ.n6 Ggz 6 at Tryz 89 as Tryz.sortedOf
shelf_lay_g SlLaysM.n6 Slgm 6 at Tryz 122 as Tryz.sortOf

theorem Tryz.sorts_of (m : Nat) : AnyZ.SortsIn Tryz.prog Tryz.sortedOf_ren Fence.wide m :=
  ⟨fun blk off cap ss W hH hblk hsz => callsIn_wide.2 (AnyM.slices_Sort_string Tryz.sortOf blk off cap ss W hH hblk hsz),
   fun p cap W => callsIn_wide.2 (AnyM.slices_Sort_string_none Tryz.sortOf p cap W)⟩
theorem Tryz.maps_keys (mb : Option Nat) (W : World) : Calls Tryz.prog 90 #[.map mb] W fun e w' => e = .returned (.func (.func 123) #[] #[.pointer (some ⟨W.heap.size, 0, none⟩)]) ∧ w' = W.alloc (.cells #[.map mb] 128) :=
  callsIn_wide.1 (AnyZ.keys_in Tryz.keysOf Fence.wide 5 trivial rfl mb W)
set_option maxHeartbeats 1000000 in
theorem Tryz.slices_sorted {H : Type} (b nn : Nat) (D0 : DataW H) (R : Value → Option (DataW H × List MemPlace)) (w : World) (hown : w.ownsMap Tryz.prog 9 R b nn D0) (hmax : Maps.size D0 ≤ maxLen) (hbytes : Maps.size D0 * 16 ≤ 140737488355328) :
    Calls Tryz.prog 89 #[.func (.func 123) #[] #[.pointer (some ⟨w.heap.size, 0, none⟩)]] (w.alloc (.cells #[.map (some b)] 128)) fun e w' => ∃ (v : Value) (ss : List (List UInt8)), e = .returned v ∧ ss.Perm (strKeys D0) ∧
      w'.ownsRow (w.alloc (.cells #[.map (some b)] 128)).heap.size 9 1 v ss.length ((ss.mergeSort (fun x y => decide (x ≤ y))).map encStr) ∧ (v = .slice none 0 0 ↔ ss = []) ∧ Below (w.alloc (.cells #[.map (some b)] 128)).heap.size (w.alloc (.cells #[.map (some b)] 128)) w' := by
  refine (callsIn_wide (n := 5)).1 ?_
  have hbl := hown.lt
  have hseq : SeqGives Fence.wide 2 Tryz.prog 123 #[.pointer (some ⟨w.heap.size, 0, none⟩)] encStr (fun ss => ss.Perm (strKeys D0)) (Maps.size D0) (w.alloc (.cells #[.map (some b)] 128)) :=
    AnyZ.keys_gives (ρ := Tryz.keysOf_ren) { Tryz.keysOf with } Fence.wide _ trivial rfl (by omega) w.heap.size b nn D0 _ (by simp) (by simp) (by
      obtain ⟨es, clock, hb, Ft, hs, hD⟩ := hown
      exact ⟨es, clock, (Below.heap_alloc _ _ b hbl).trans hb, Ft, hs, hD⟩)
  exact AnyZ.sorted_in Tryz.sortedOf Fence.wide 5 trivial trivial trivial trivial rfl (by omega) (Tryz.sorts_of _) (enters_of Tryz.func122 (by kernel_rfl) rfl) 123 #[.pointer (some ⟨w.heap.size, 0, none⟩)] trivial (enters_of Tryz.func123 (by kernel_rfl) rfl) _ _ hmax hbytes _ hseq
end Go.Proofs

/-
  CONTRACTS (lone), seventh text: Pairs.
-/
namespace Go.Proofs.YtkpekiajdlolnaaGreat
open Go.RowKit Go.Maps Go.Sort

theorem keys_DM (L : KV) : strKeys (DM L) = L.map (·.1) := by
  show List.map _ (List.map _ L) = _
  rw [List.map_map]
  rfl
theorem bb_lt (a b : Bs) : bytesBefore a b = decide (a < b) := by rw [← less_bb, bytesLess_eq]
theorem sorted_keys {L : KV} (h : Rising L) {ss : List Bs} (hp : ss.Perm (L.map (·.1))) : ss.mergeSort (fun x y => decide (x ≤ y)) = L.map (·.1) := by
  rw [mergeSort_of_perm hp]
  refine List.mergeSort_of_pairwise ?_
  rw [List.pairwise_map]
  refine List.Pairwise.imp ?_ h
  intro a b hab
  rw [bb_lt] at hab
  exact decide_eq_true (List.le_of_lt (of_decide_eq_true hab))
theorem get_run1 {w : World} {mb : Nat} {L : KV} (hm : MapKV w mb L) (s : ByteArray) (hs : s.size ≤ maxLen) : (Instr.lookup 128 (.map (some mb)) (.string s) false).run Tryz.prog w = .ok (.agg #[sv ((kvFind L s.data.toList).getD [])]) w := by
  have hown := hm
  obtain ⟨v, ps, hrun, hv⟩ := hown.lookup (string_keyed Tryz.underlying9) Tryz.underlying128 (zeroVal w) (zd := ev []) (zp := []) rfl (keyStr s hs)
  rw [atKey_DM] at hv
  have : Rv v = some (ev ((kvFind L s.data.toList).getD []), ps) := by
    rw [hv]
    cases kvFind L s.data.toList <;> rfl
  rw [hrun, Rv_inv this]
theorem field_run (pv : ByteArray) (w : World) : (Instr.field 163 (.agg #[.string pv]) 0).run Tryz.prog w = .ok (.string pv) w := by kernel_rfl
theorem kv_at {L : KV} (h : Rising L) {j : Nat} {p : Bs × Bs} (hp : L[j]? = some p) : kvFind L p.1 = some p.2 := by
  have hmem : p ∈ L := List.mem_of_getElem? hp
  clear hp
  unfold kvFind
  induction L with
  | nil => cases hmem
  | cons q L ih =>
    obtain ⟨h1, h2⟩ := List.pairwise_cons.1 h
    rw [List.find?_cons]
    rcases List.mem_cons.1 hmem with rfl | hm
    · simp
    · rw [bb_ne (h1 p hm)]
      exact ih h2 hm

def PairsPost (w : World) (L : KV) (e : Ending) (w' : World) : Prop := ∃ v, e = .returned v ∧ RowKV w' w.heap.size v L ∧ Below w.heap.size w w'
theorem filter_take_succ {L : KV} {j : Nat} {p : Bs × Bs} (f : Bs × Bs → Bool) (hp : L[j]? = some p) : (L.take (j + 1)).filter f = (L.take j).filter f ++ (if f p then [p] else []) := by
  obtain ⟨hj, rfl⟩ := List.getElem?_eq_some_iff.1 hp
  rw [List.take_succ_eq_append_getElem hj, List.filter_append, List.filter_cons, List.filter_nil]
section
variable {w : World} {db mb : Nat} {L : KV}
/-- the loop's standing. -/
structure PrW (W : World) (db mb : Nat) (L : KV) (s t : Bs) (j : Nat) (out : Value) (w : World) : Prop where
  row : RowKV w W.heap.size out ((L.take j).filter (inB s t))
  below : Below W.heap.size W w
theorem PrW.app {W : World} {s t : Bs} {j : Nat} {out : Value} {p : Bs × Bs} (h : PrW W db mb L s t j out w) (hp : L[j]? = some p) (hin : inB s t p = true) {v' : Value} {w1 w2 : World} (hb1 : Below W.heap.size W w1) (hr1 : w1.ownsRow W.heap.size 62 2 out ((L.take j).filter (inB s t)).length (flat ((L.take j).filter (inB s t)))) (hg : w1.grownBy w2 out.ownBlock)
    (hr : w2.ownsRow W.heap.size 62 2 v' (((L.take j).filter (inB s t)).length + 1) (flat ((L.take j).filter (inB s t)) ++ [sv p.1, sv p.2])) (ha : AllS w2 v') : PrW W db mb L s t (j + 1) v' w2 := by
  refine ⟨?_, below_byGrown hb1 hg hr1 (Nat.le_refl _) hb1.size⟩
  rw [filter_take_succ _ hp, hin, if_pos rfl]
  exact row_end hr ha (Nat.le_refl _) (by rw [flat_append]; rfl)
theorem PrW.skip {W : World} {s t : Bs} {j : Nat} {out : Value} {p : Bs × Bs} (h : PrW W db mb L s t j out w) (hp : L[j]? = some p) (hin : inB s t p = false) : PrW W db mb L s t (j + 1) out w := by
  refine ⟨?_, h.below⟩
  rw [filter_take_succ _ hp, hin]
  simpa using h.row
/-- the sorted keys. -/
theorem sorted_at (hm : MapKV w mb L) (hri : Rising L) (hL : L.length ≤ 12) :
    Calls Tryz.prog 89 #[.func (.func 123) #[] #[.pointer (some ⟨w.heap.size, 0, none⟩)]] (w.alloc (.cells #[.map (some mb)] 128)) fun e w' =>
      ((L = [] ∧ e = .returned (.slice none 0 0)) ∨ ∃ kb cap, L ≠ [] ∧ e = .returned (.slice (some ⟨kb, 0, none⟩) L.length cap) ∧ ∀ j (p : Bs × Bs), L[j]? = some p → w'.cell? ⟨kb, j, none⟩ = some (sv p.1)) ∧ Below w.heap.size w w' := by
  refine (Tryz.slices_sorted mb L.length (DM L) Rv w hm (by rw [size_DM]; unfold maxLen; omega) (by rw [size_DM]; omega)).mono ?_
  rintro e w' ⟨kv, ss, rfl, hp, hr, hn, hb⟩
  have hb' : Below w.heap.size w w' := ((Below.refl _ w).alloc (Nat.le_refl _) _).trans (hb.mono (by simp))
  rw [keys_DM] at hp
  have hlen : ss.length = L.length := by rw [hp.length_eq, List.length_map]
  rw [sorted_keys hri hp] at hr
  refine ⟨?_, hb'⟩
  by_cases he : L = []
  · have : ss = [] := List.eq_nil_of_length_eq_zero (by rw [hlen, he]; rfl)
    exact .inl ⟨he, by rw [hn.2 this]⟩
  · rcases hr.2 with ⟨_, hz⟩ | ⟨kb, cap, cur, hkv, _⟩
    · exact absurd (List.eq_nil_of_length_eq_zero (by omega)) he
    · refine .inr ⟨kb, cap, he, by rw [hkv, hlen], fun j p hj => ?_⟩
      have h1 : ((L.map (·.1)).map encStr)[j]? = some (sv p.1) := by rw [List.getElem?_map, List.getElem?_map, hj]; rfl
      have h2 := hr.cells (g := kb) (by rw [hkv]; rfl) _ _ h1
      rwa [Addr.add_lit, Nat.zero_add] at h2
set_option maxRecDepth 100000 in
set_option maxHeartbeats 2000000 in
theorem pairs_nil (hd : w.cell? ⟨db, 0, none⟩ = some (.map (some mb))) (hm : MapKV w mb []) (s t : ByteArray) :
    Calls Tryz.prog 53 #[.pointer (some ⟨db, 0, none⟩), .string s, .string t] w (PairsPost w []) := by
  have HS := Lib.hid (sorted_at hm List.Pairwise.nil (by decide))
  clear hm
  go_enter Tryz.func53, Tryz.ntmps53
  go_wp2_with (first
    | (go_at_call 90; refine (Tryz.maps_keys _ _).mono ?_; rintro e w' ⟨rfl, rfl⟩)
    | (go_at_call 89; refine (HS.out.mono fun e w' h => (show (e = .returned (.slice none 0 0)) ∧ Below w.heap.size w w' from ⟨h.1.elim (·.2) (fun ⟨_, _, h, _⟩ => (h rfl).elim), h.2⟩)).mono ?_; rintro e w2 ⟨rfl, hb2⟩; have HB := Lib.hid hb2; clear hb2))
  refine wp_loop_rounds 1 ?_
  rw [rounds_succ]
  go_wp2
  go_ret
  exact ⟨_, rfl, ⟨World.ownsRow_nil _ _ _ _, AllS.nil _⟩, HB.out⟩
set_option maxRecDepth 100000 in
set_option maxHeartbeats 2000000 in
theorem pairs_some (hne : L ≠ []) (hd : w.cell? ⟨db, 0, none⟩ = some (.map (some mb))) (hm : MapKV w mb L) (hri : Rising L) (hL : L.length ≤ 12) (hks : ∀ p ∈ L, p.1.length ≤ maxLen) (s t : ByteArray) :
    Calls Tryz.prog 53 #[.pointer (some ⟨db, 0, none⟩), .string s, .string t] w (PairsPost w (L.filter (inB s.data.toList t.data.toList))) := by
  have HS := Lib.hid (sorted_at hm hri hL)
  have HM := Lib.hid hm
  have HR := Lib.hid hri
  have HK := Lib.hid hks
  have HN := Lib.hid hne
  clear hm hri hks hne
  go_enter Tryz.func53, Tryz.ntmps53
  go_wp2_with (first
    | (go_at_call 90; refine (Tryz.maps_keys _ _).mono ?_; rintro e w' ⟨rfl, rfl⟩)
    | (go_at_call 89; refine (HS.out.mono fun e w' h => (show (∃ kb cap, e = .returned (.slice (some ⟨kb, 0, none⟩) L.length cap) ∧ ∀ j (p : Bs × Bs), L[j]? = some p → w'.cell? ⟨kb, j, none⟩ = some (sv p.1)) ∧ Below w.heap.size w w' from ⟨h.1.elim (fun h => (HN.out h.1).elim) (fun ⟨kb, cap, _, h⟩ => ⟨kb, cap, h⟩), h.2⟩)).mono ?_; rintro e w2 ⟨⟨kb, cap, rfl, hkc⟩, hb2⟩; have HC := Lib.hid hkc; have HB := Lib.hid hb2; clear hkc hb2))
  go_loopw [7, 17] (fun out i wr => ∃ j : Nat, j ≤ L.length ∧ i = .int .i64 j ∧ Hid (PrW w2 db mb L s.data.toList t.data.toList j out wr)) (fun _ i _ => L.length - (intOf i).toNat)
  case atStart => exact ⟨0, Nat.zero_le _, rfl, Lib.hid ⟨⟨World.ownsRow_nil _ _ _ _, AllS.nil _⟩, Below.refl _ _⟩⟩
  case round =>
    obtain ⟨j, hj, rfl, HP⟩ := hrel
    have HBD : Hid (((L.take j).filter (inB s.data.toList t.data.toList)).length + 1 ≤ 1073741824) := by
      have h1 := List.length_filter_le (inB s.data.toList t.data.toList) (L.take j)
      rw [List.length_take] at h1
      show _ ≤ _
      omega
    by_cases hjl : j < L.length
    · obtain ⟨p, hp⟩ : ∃ p, L[j]? = some p := ⟨_, List.getElem?_eq_getElem hjl⟩
      have hc0 := HC.out j p hp
      have hkc := (HP.out.below.cell (World.block_lt_of_cell? _ _ hc0)).trans hc0
      have hbw : Below w.heap.size w wr := HB.out.trans (HP.out.below.mono HB.out.size)
      have hdr := (hbw.cell (World.block_lt_of_cell? _ _ hd)).trans hd
      have hmem : p ∈ L := List.mem_of_getElem? hp
      have hlk := get_run1 (HM.out.block (hbw.block mb HM.out.lt)) ⟨p.1.toArray⟩ (by have := HK.out p hmem; simpa [ByteArray.size] using this)
      rw [show (⟨p.1.toArray⟩ : ByteArray).data.toList = p.1 by simp, kv_at HR.out hp, Option.getD_some] at hlk
      have e1 : Op.bytesLess (⟨p.1.toArray⟩ : ByteArray).toList s.toList = bytesBefore p.1 s.data.toList := by rw [less_bb, ByteArray.toList_eq, ByteArray.toList_eq]
      have e2 : Op.bytesLess (⟨p.1.toArray⟩ : ByteArray).toList t.toList = bytesBefore p.1 t.data.toList := by rw [less_bb, ByteArray.toList_eq, ByteArray.toList_eq]
      have e3 : t.toList.isEmpty = t.data.toList.isEmpty := by rw [ByteArray.toList_eq]
      have hinB : inB s.data.toList t.data.toList p = (!Op.bytesLess (⟨p.1.toArray⟩ : ByteArray).toList s.toList && (t.toList.isEmpty || Op.bytesLess (⟨p.1.toArray⟩ : ByteArray).toList t.toList)) := by rw [e1, e2, e3]; rfl
      clear hc0 hbw hmem e1 e2 e3
      cases g1 : Op.bytesLess (⟨p.1.toArray⟩ : ByteArray).toList s.toList
      · cases g2 : t.toList.isEmpty
        · cases g3 : Op.bytesLess (⟨p.1.toArray⟩ : ByteArray).toList t.toList
          · have hin : inB s.data.toList t.data.toList p = false := by rw [hinB, g1, g2, g3]; rfl
            clear hinB
            have HSK := Lib.hid (HP.out.skip hp hin)
            unfold sv at hkc hlk
            generalize (⟨p.1.toArray⟩ : ByteArray) = pk at *
            generalize (⟨p.2.toArray⟩ : ByteArray) = pv at *
            clear hin hp
            go_wp2
            go_roundw
            case rel => exact ⟨j + 1, by omega, rfl, HSK.out⟩
            case measure => simp [intOf]; omega
          · have hin : inB s.data.toList t.data.toList p = true := by rw [hinB, g1, g2, g3]; rfl
            clear hinB
            have HAPP := Lib.hid (fun v' w1 w3 => HP.out.app (v' := v') (w1 := w1) (w2 := w3) hp hin)
            unfold sv at HAPP hkc hlk
            generalize (⟨p.1.toArray⟩ : ByteArray) = pk at *
            generalize (⟨p.2.toArray⟩ : ByteArray) = pv at *
            clear hin hp
            have hfd := field_run pv
            go_wp2_with (at_builtin; refine wpList_app (v := u7) rfl (.tmp 33) (.tmp 43) rfl rfl rfl (HP.out.row.1.alloc _) (HP.out.row.2.alloc _) (Src.one wr pk pv _) HBD.out (Nat.le_trans HP.out.below.size (by simp)) ?_; intro v3 w3 hrow3 hall3 hg3; have HP3 := Lib.hid (HAPP.out v3 _ w3 (HP.out.below.alloc HP.out.below.size _) (HP.out.row.1.alloc _) hg3 hrow3 hall3); clear hrow3 hall3 hg3)
            go_roundw
            case rel => exact ⟨j + 1, by omega, rfl, HP3⟩
            case measure => simp [intOf]; omega
        · have hin : inB s.data.toList t.data.toList p = true := by rw [hinB, g1, g2]; rfl
          clear hinB
          have HAPP := Lib.hid (fun v' w1 w3 => HP.out.app (v' := v') (w1 := w1) (w2 := w3) hp hin)
          unfold sv at HAPP hkc hlk
          generalize (⟨p.1.toArray⟩ : ByteArray) = pk at *
          generalize (⟨p.2.toArray⟩ : ByteArray) = pv at *
          clear hin hp
          have hfd := field_run pv
          go_wp2_with (at_builtin; refine wpList_app (v := u7) rfl (.tmp 33) (.tmp 43) rfl rfl rfl (HP.out.row.1.alloc _) (HP.out.row.2.alloc _) (Src.one wr pk pv _) HBD.out (Nat.le_trans HP.out.below.size (by simp)) ?_; intro v3 w3 hrow3 hall3 hg3; have HP3 := Lib.hid (HAPP.out v3 _ w3 (HP.out.below.alloc HP.out.below.size _) (HP.out.row.1.alloc _) hg3 hrow3 hall3); clear hrow3 hall3 hg3)
          go_roundw
          case rel => exact ⟨j + 1, by omega, rfl, HP3⟩
          case measure => simp [intOf]; omega
      · have hin : inB s.data.toList t.data.toList p = false := by rw [hinB, g1]; rfl
        clear hinB
        have HSK := Lib.hid (HP.out.skip hp hin)
        unfold sv at hkc hlk
        generalize (⟨p.1.toArray⟩ : ByteArray) = pk at *
        generalize (⟨p.2.toArray⟩ : ByteArray) = pv at *
        clear hin hp
        go_wp2
        go_roundw
        case rel => exact ⟨j + 1, by omega, rfl, HSK.out⟩
        case measure => simp [intOf]; omega
    · obtain rfl : j = L.length := by omega
      have HE := Lib.hid HP.out.row
      rw [List.take_length] at HE
      go_wp2
      go_ret
      exact ⟨_, rfl, row_end HE.out.1 HE.out.2 HB.out.size rfl, HB.out.trans (HP.out.below.mono HB.out.size)⟩
theorem pairs_c (hd : w.cell? ⟨db, 0, none⟩ = some (.map (some mb))) (hm : MapKV w mb L) (hri : Rising L) (hL : L.length ≤ 12) (hks : ∀ p ∈ L, p.1.length ≤ maxLen) (s t : ByteArray) :
    Calls Tryz.prog 53 #[.pointer (some ⟨db, 0, none⟩), .string s, .string t] w (PairsPost w (L.filter (inB s.data.toList t.data.toList))) := by
  by_cases hne : L = []
  · subst hne; exact pairs_nil hd hm s t
  · exact pairs_some hne hd hm hri hL hks s t
end
end Go.Proofs.YtkpekiajdlolnaaGreat

/-
  CONTRACTS OF THE DOCUMENT's SIDE (lone), eighth text: Scan.
-/
namespace Go.Proofs.YtkpekiajdlolnaaGreat
open Go.RowKit Go.Maps

/-- the pairs asked for, of the first i shards. -/
def cat (L : Nat → KV) (f : Bs × Bs → Bool) : Nat → KV
  | 0 => []
  | i + 1 => cat L f i ++ (L i).filter f
/-- behind j pairs of the i-th shard. -/
def scanned (L : Nat → KV) (f : Bs × Bs → Bool) (most : Nat) (i j : Nat) : KV := (cat L f i ++ ((L i).take j).filter f).take most
theorem scanned_next {L : Nat → KV} {f : Bs × Bs → Bool} {most i : Nat} : scanned L f most i (L i).length = scanned L f most (i + 1) 0 := by
  unfold scanned
  rw [List.take_length]
  simp [cat]
theorem scanned_succ {L : Nat → KV} {f : Bs × Bs → Bool} {most i j : Nat} {p : Bs × Bs} (hp : (L i)[j]? = some p) :
    scanned L f most i (j + 1) = if f p && decide ((scanned L f most i j).length < most) then scanned L f most i j ++ [p] else scanned L f most i j := by
  unfold scanned
  rw [filter_take_succ f hp]
  cases hf : f p
  · simp
  · simp only [if_true, Bool.true_and, decide_eq_true_eq]
    rw [← List.append_assoc]
    generalize cat L f i ++ List.filter f (List.take j (L i)) = X
    split
    · rename_i hlt
      rw [List.length_take] at hlt
      rw [List.take_of_length_le (by simp; omega), List.take_of_length_le (by omega)]
    · rename_i hge
      rw [List.length_take] at hge
      rw [List.take_append_of_le_length (by omega)]
theorem cat_le {L : Nat → KV} {f : Bs × Bs → Bool} (h : ∀ i, i < 4 → (L i).length ≤ 12) : ∀ i, i ≤ 4 → (cat L f i).length ≤ i * 12
  | 0, _ => by simp [cat]
  | i + 1, hi => by
    have := cat_le (f := f) h i (by omega)
    have h2 := List.length_filter_le f (L i)
    have h3 := h i (by omega)
    simp only [cat, List.length_append]
    omega
theorem scanned_le {L : Nat → KV} {f : Bs × Bs → Bool} {most i j : Nat} (h : ∀ i, i < 4 → (L i).length ≤ 12) (hi : i < 4) : (scanned L f most i j).length ≤ 48 := by
  unfold scanned
  have := cat_le (f := f) h i (by omega)
  have h2 := List.length_filter_le f ((L i).take j)
  have h3 := h i hi
  rw [List.length_take] at h2
  rw [List.length_take, List.length_append]
  omega
def RScanPost (w : World) (l : KV) (e : Ending) (w' : World) : Prop := ∃ v, e = .returned (.tuple #[v, .int .i64 0]) ∧ RowKV w' w.heap.size v l ∧ Below w.heap.size w w'
/-- a Scan's loops. -/
structure ScW (W : World) (ml sb : Nat) (lv : Nat → Value) (L : Nat → KV) (f : Bs × Bs → Bool) (most i j : Nat) (out : Value) (w : World) : Prop where
  row : RowKV w W.heap.size out (scanned L f most i j)
  below : Below W.heap.size W w
  mdl : Mdl w ml sb lv L
section
variable {w : World} {ml sb : Nat} {lv : Nat → Value} {L : Nat → KV} {f : Bs × Bs → Bool} {most i j : Nat} {out : Value}
theorem ScW.alloc {W : World} (h : ScW W ml sb lv L f most i j out w) (o : Obj) : ScW W ml sb lv L f most i j out (w.alloc o) :=
  ⟨⟨h.row.1.alloc o, h.row.2.alloc o⟩, h.below.alloc h.below.size o, h.mdl.below ((Below.refl _ _).alloc (Nat.le_refl _) o)⟩
theorem ScW.next {W : World} (h : ScW W ml sb lv L f most i (L i).length out w) : ScW W ml sb lv L f most (i + 1) 0 out w := ⟨scanned_next ▸ h.row, h.below, h.mdl⟩
theorem ScW.skip {W : World} (h : ScW W ml sb lv L f most i j out w) {p : Bs × Bs} (hp : (L i)[j]? = some p) (hno : (f p && decide ((scanned L f most i j).length < most)) = false) : ScW W ml sb lv L f most i (j + 1) out w :=
  ⟨by rw [scanned_succ hp, hno]; exact h.row, h.below, h.mdl⟩
theorem ScW.app {W : World} (h : ScW W ml sb lv L f most i j out w) {p : Bs × Bs} (hp : (L i)[j]? = some p) (hyes : (f p && decide ((scanned L f most i j).length < most)) = true) {v' : Value} {w2 : World} (hg : w.grownBy w2 out.ownBlock)
    (hml : ml < W.heap.size) (hold : Mdl W ml sb lv L)
    (hr : w2.ownsRow W.heap.size 62 2 v' ((scanned L f most i j).length + 1) (flat (scanned L f most i j) ++ [sv p.1, sv p.2])) (ha : AllS w2 v') : ScW W ml sb lv L f most i (j + 1) v' w2 := by
  have hb := below_byGrown h.below hg h.row.1 (Nat.le_refl _) h.below.size
  refine ⟨?_, hb, hold.below hb⟩
  rw [scanned_succ hp, hyes, if_pos rfl]
  exact row_end hr ha (Nat.le_refl _) (by rw [flat_append]; rfl)
theorem Src.one2 (w : World) (o : Obj) (a b : ByteArray) (ty : TypeId) : Src ((w.alloc o).alloc (.cells #[.string a, .string b] ty)) (some ⟨w.heap.size + 1, 0, none⟩) 1 [.string a, .string b] := by
  have h := Src.one (w.alloc o) a b ty
  have e : (w.alloc o).heap.size = w.heap.size + 1 := by simp
  rwa [e] at h
theorem sv_eq {b : ByteArray} {l : Bs} (h : b.data.toList = l) : sv l = .string b := by rw [← h]; exact sv_of b
theorem own_shape {w : World} {base n : Nat} {v : Value} {xs : List Value} (h : w.ownsRow base 62 2 v n xs) : ∃ sa cp, v = .slice sa n cp := by
  rcases h.2 with ⟨rfl, hz⟩ | ⟨g, cap, cur, rfl, _⟩
  · exact ⟨none, 0, by rw [hz]⟩
  · exact ⟨_, _, rfl⟩
set_option maxRecDepth 100000 in
theorem rscan_no (s t : ByteArray) (m : Int) (hm : m < 0) : Calls Tryz.prog 76 #[.pointer (some ⟨ml, 0, none⟩), .string s, .string t, .int .i64 m] w fun e w' => e = .returned (.tuple #[.slice none 0 0, .int .i64 7]) ∧ w' = w := by
  have g1 : decide (m < 0) = true := decide_eq_true hm
  go_enter Tryz.func76, Tryz.ntmps76
  go_wp2
  go_ret2
  exact ⟨rfl, rfl⟩
set_option maxRecDepth 100000 in
set_option maxHeartbeats 4000000 in
theorem rscan_yes (hm : Mdl w ml sb lv L) (hL : ∀ i, i < 4 → (L i).length ≤ 12) (s t : ByteArray) (hmost : most ≤ 9223372036854775807) :
    Calls Tryz.prog 76 #[.pointer (some ⟨ml, 0, none⟩), .string s, .string t, .int .i64 most] w (RScanPost w ((cat L (inB s.data.toList t.data.toList) 4).take most)) := by
  have g0 : decide ((most : Int) < 0) = false := by simp
  obtain ⟨cap, hs⟩ := hm.s
  have HM := Lib.hid hm
  have HL := Lib.hid hL
  have HML := Lib.hid hm.lts.1
  clear hm hL
  obtain ⟨f, hf⟩ : ∃ f, inB s.data.toList t.data.toList = f := ⟨_, rfl⟩
  rw [hf]
  have HF := Lib.hid hf
  clear hf
  go_enter Tryz.func76, Tryz.ntmps76
  go_wp2
  go_loopw [10, 22] (fun out x wr => ∃ i : Nat, i ≤ 4 ∧ x = .int .i64 i ∧ ∃ sa n cp, out = .slice sa n cp ∧ Hid (n = (scanned L f most i 0).length ∧ ScW w ml sb lv L f most i 0 (.slice sa n cp) wr)) (fun _ x _ => 4 - (intOf x).toNat)
  case atStart => exact ⟨0, by omega, rfl, none, 0, 0, rfl, Lib.hid ⟨by simp [scanned, cat], ⟨by simpa [scanned, cat, flat_nil] using World.ownsRow_nil w w.heap.size 62 2, AllS.nil _⟩, Below.refl _ _, HM.out⟩⟩
  case round =>
    obtain ⟨i, hi, rfl, sa, n, cp, rfl, HP⟩ := hrel
    by_cases hi4 : i < 4
    · obtain ⟨c1, c2, _⟩ := HP.out.2.mdl.cl hi4
      obtain ⟨o, c0⟩ := HP.out.2.mdl.owner hi4
      rcases (HP.out.2.mdl.r i hi4).1.2 with ⟨hnil, hz⟩ | ⟨g, gc, cur, hv, _⟩
      · rw [hnil] at c1
        have HX := Lib.hid (fun (o : Obj) => (show ScW w ml sb lv L f most i (L i).length (.slice sa n cp) _ from hz ▸ HP.out.2.alloc o).next)
        have HNX : Hid (scanned L f most i 0 = scanned L f most (i + 1) 0) := by rw [← scanned_next, hz]; rfl
        clear hnil hz
        go_wp2
        refine wp_loop_rounds 1 ?_
        rw [rounds_succ]
        go_wp2
        go_roundw
        case rel => exact ⟨i + 1, by omega, rfl, sa, n, cp, rfl, Lib.hid ⟨by rw [← HNX.out]; exact HP.out.1, HX.out _⟩⟩
        case measure => simp [intOf]; omega
      · rw [hv] at c1
        have HV := Lib.hid hv
        have HLi := HL.out i hi4
        clear hv
        go_wp2
        go_loopw [10, 29] (fun out x wr2 => ∃ j : Nat, j ≤ (L i).length ∧ x = .int .i64 j ∧ ∃ sa n cp, out = .slice sa n cp ∧ Hid (n = (scanned L f most i j).length ∧ ScW w ml sb lv L f most i j (.slice sa n cp) wr2)) (fun _ x _ => (L i).length - (intOf x).toNat)
        case atStart => exact ⟨0, by omega, rfl, sa, n, cp, rfl, Lib.hid ⟨HP.out.1, HP.out.2.alloc _⟩⟩
        case round =>
          obtain ⟨j, hj, rfl, sa2, n2, cp2, rfl, HP2⟩ := hrel
          have HBD : Hid ((scanned L f most i j).length + 1 ≤ 1073741824) := by
            have := scanned_le (f := f) (most := most) (j := j) HL.out hi4
            show _ ≤ _
            omega
          by_cases hjl : j < (L i).length
          · obtain ⟨p, hp⟩ : ∃ p, (L i)[j]? = some p := ⟨_, List.getElem?_eq_getElem hjl⟩
            obtain ⟨q1, q2⟩ := flat_get (L i) j p hp
            have d1 := (HP2.out.2.mdl.r i hi4).1.cells (g := g) (by rw [HV.out]; rfl) _ _ q1
            have d2 := (HP2.out.2.mdl.r i hi4).1.cells (g := g) (by rw [HV.out]; rfl) _ _ q2
            rw [Addr.add_lit, Nat.zero_add] at d1 d2
            have HPP := Lib.hid hp
            obtain ⟨pk, e1⟩ : ∃ b : ByteArray, b.data.toList = p.1 := ⟨⟨p.1.toArray⟩, by simp⟩
            obtain ⟨pv, e2⟩ : ∃ b : ByteArray, b.data.toList = p.2 := ⟨⟨p.2.toArray⟩, by simp⟩
            rw [sv_eq e1] at d1
            rw [sv_eq e2] at d2
            have HPP0 := Lib.hid (And.intro e1 e2)
            have hinB : f p = (!Op.bytesLess pk.toList s.toList && (t.toList.isEmpty || Op.bytesLess pk.toList t.toList)) := by
              rw [← HF.out, less_bb, less_bb, ByteArray.toList_eq, ByteArray.toList_eq, ByteArray.toList_eq, e1]; rfl
            clear q1 q2 hp e1 e2
            cases g1 : Op.bytesLess pk.toList s.toList
            · by_cases hlt : n2 < most
              · have g4 : decide ((n2 : Int) < (most : Int)) = true := by simp; omega
                cases g2 : t.toList.isEmpty
                · cases g3 : Op.bytesLess pk.toList t.toList
                  · have hfp : f p = false := by rw [hinB, g1, g2, g3]; rfl
                    clear hinB
                    have hno : (f p && decide ((scanned L f most i j).length < most)) = false := by rw [hfp]; rfl
                    have HSK := Lib.hid (fun o => (HP2.out.2.alloc o).skip HPP.out hno)
                    have HLN := Lib.hid (scanned_succ (most := most) (f := f) HPP.out)
                    rw [hno] at HLN
                    clear hno hfp
                    go_wp2
                    go_roundw
                    case rel => exact ⟨j + 1, by omega, rfl, sa2, n2, cp2, rfl, Lib.hid ⟨by rw [HLN.out]; exact HP2.out.1, HSK.out _⟩⟩
                    case measure => simp [intOf]; omega
                  · have hfp : f p = true := by rw [hinB, g1, g2, g3]; rfl
                    clear hinB
                    have hyes : (f p && decide ((scanned L f most i j).length < most)) = true := by simp only [hfp, Bool.true_and]; exact decide_eq_true (by rw [← HP2.out.1]; exact hlt)
                    have HAPP := Lib.hid (fun (v' : Value) (w1 w2 : World) (h : ScW w ml sb lv L f most i j (.slice sa2 n2 cp2) w1) => h.app (v' := v') (w2 := w2) HPP.out hyes)
                    have HLN := Lib.hid (scanned_succ (most := most) (f := f) HPP.out)
                    rw [hyes] at HLN
                    have HSV := Lib.hid (And.intro (sv_eq HPP0.out.1) (sv_eq HPP0.out.2))
                    clear hyes hfp
                    go_wp2_with (at_builtin; refine wpList_app (v := .slice sa2 n2 cp2) rfl (.tmp 53) (.tmp 55) rfl rfl rfl ((HP2.out.2.alloc _).row.1.alloc _) ((HP2.out.2.alloc _).row.2.alloc _) (Src.one2 _ _ pk pv _) HBD.out (Nat.le_trans HP2.out.2.below.size (by simp; omega)) ?_; intro v3 w3 hrow3 hall3 hg3; obtain ⟨sa3, cp3, hv3⟩ := own_shape hrow3; have HP3 := Lib.hid (HAPP.out v3 _ w3 ((HP2.out.2.alloc _).alloc _) hg3 HML.out HM.out (by rw [HSV.out.1, HSV.out.2]; exact hrow3) hall3); rw [hv3] at HP3; rw [hv3]; clear hrow3 hall3 hg3 hv3)
                    go_roundw
                    case rel => exact ⟨_, _, _, ⟨j + 1, by omega, rfl, sa3, _, cp3, rfl, Lib.hid ⟨by rw [HLN.out]; simp, HP3.out⟩⟩, rfl, rfl, rfl⟩
                    case measure => simp [intOf]; omega
                · have hfp : f p = true := by rw [hinB, g1, g2]; rfl
                  clear hinB
                  have hyes : (f p && decide ((scanned L f most i j).length < most)) = true := by simp only [hfp, Bool.true_and]; exact decide_eq_true (by rw [← HP2.out.1]; exact hlt)
                  have HAPP := Lib.hid (fun (v' : Value) (w1 w2 : World) (h : ScW w ml sb lv L f most i j (.slice sa2 n2 cp2) w1) => h.app (v' := v') (w2 := w2) HPP.out hyes)
                  have HLN := Lib.hid (scanned_succ (most := most) (f := f) HPP.out)
                  rw [hyes] at HLN
                  have HSV := Lib.hid (And.intro (sv_eq HPP0.out.1) (sv_eq HPP0.out.2))
                  clear hyes hfp
                  go_wp2_with (at_builtin; refine wpList_app (v := .slice sa2 n2 cp2) rfl (.tmp 53) (.tmp 55) rfl rfl rfl ((HP2.out.2.alloc _).row.1.alloc _) ((HP2.out.2.alloc _).row.2.alloc _) (Src.one2 _ _ pk pv _) HBD.out (Nat.le_trans HP2.out.2.below.size (by simp; omega)) ?_; intro v3 w3 hrow3 hall3 hg3; obtain ⟨sa3, cp3, hv3⟩ := own_shape hrow3; have HP3 := Lib.hid (HAPP.out v3 _ w3 ((HP2.out.2.alloc _).alloc _) hg3 HML.out HM.out (by rw [HSV.out.1, HSV.out.2]; exact hrow3) hall3); rw [hv3] at HP3; rw [hv3]; clear hrow3 hall3 hg3 hv3)
                  go_roundw
                  case rel => exact ⟨_, _, _, ⟨j + 1, by omega, rfl, sa3, _, cp3, rfl, Lib.hid ⟨by rw [HLN.out]; simp, HP3.out⟩⟩, rfl, rfl, rfl⟩
                  case measure => simp [intOf]; omega
              · have g4 : decide ((n2 : Int) < (most : Int)) = false := by simp; omega
                cases g2 : t.toList.isEmpty
                · cases g3 : Op.bytesLess pk.toList t.toList
                  · have hfp : f p = false := by rw [hinB, g1, g2, g3]; rfl
                    clear hinB
                    have hno : (f p && decide ((scanned L f most i j).length < most)) = false := by rw [hfp]; rfl
                    have HSK := Lib.hid (fun o => (HP2.out.2.alloc o).skip HPP.out hno)
                    have HLN := Lib.hid (scanned_succ (most := most) (f := f) HPP.out)
                    rw [hno] at HLN
                    clear hno hfp
                    go_wp2
                    go_roundw
                    case rel => exact ⟨j + 1, by omega, rfl, sa2, n2, cp2, rfl, Lib.hid ⟨by rw [HLN.out]; exact HP2.out.1, HSK.out _⟩⟩
                    case measure => simp [intOf]; omega
                  · have hfp : f p = true := by rw [hinB, g1, g2, g3]; rfl
                    clear hinB
                    have hno : (f p && decide ((scanned L f most i j).length < most)) = false := by simp only [hfp, Bool.true_and]; exact decide_eq_false (by rw [← HP2.out.1]; exact hlt)
                    have HSK := Lib.hid (fun o => (HP2.out.2.alloc o).skip HPP.out hno)
                    have HLN := Lib.hid (scanned_succ (most := most) (f := f) HPP.out)
                    rw [hno] at HLN
                    clear hno hfp
                    go_wp2
                    go_roundw
                    case rel => exact ⟨j + 1, by omega, rfl, sa2, n2, cp2, rfl, Lib.hid ⟨by rw [HLN.out]; exact HP2.out.1, HSK.out _⟩⟩
                    case measure => simp [intOf]; omega
                · have hfp : f p = true := by rw [hinB, g1, g2]; rfl
                  clear hinB
                  have hno : (f p && decide ((scanned L f most i j).length < most)) = false := by simp only [hfp, Bool.true_and]; exact decide_eq_false (by rw [← HP2.out.1]; exact hlt)
                  have HSK := Lib.hid (fun o => (HP2.out.2.alloc o).skip HPP.out hno)
                  have HLN := Lib.hid (scanned_succ (most := most) (f := f) HPP.out)
                  rw [hno] at HLN
                  clear hno hfp
                  go_wp2
                  go_roundw
                  case rel => exact ⟨j + 1, by omega, rfl, sa2, n2, cp2, rfl, Lib.hid ⟨by rw [HLN.out]; exact HP2.out.1, HSK.out _⟩⟩
                  case measure => simp [intOf]; omega
            · have hfp : f p = false := by rw [hinB, g1]; rfl
              clear hinB
              have hno : (f p && decide ((scanned L f most i j).length < most)) = false := by rw [hfp]; rfl
              have HSK := Lib.hid (fun o => (HP2.out.2.alloc o).skip HPP.out hno)
              have HLN := Lib.hid (scanned_succ (most := most) (f := f) HPP.out)
              rw [hno] at HLN
              clear hno hfp
              go_wp2
              go_roundw
              case rel => exact ⟨j + 1, by omega, rfl, sa2, n2, cp2, rfl, Lib.hid ⟨by rw [HLN.out]; exact HP2.out.1, HSK.out _⟩⟩
              case measure => simp [intOf]; omega
          · obtain rfl : j = (L i).length := by omega
            have HNX : Hid (scanned L f most i (L i).length = scanned L f most (i + 1) 0) := Lib.hid scanned_next
            have HX := Lib.hid HP2.out.2.next
            go_wp2
            go_roundw
            case rel => exact ⟨i + 1, by omega, rfl, sa2, n2, cp2, rfl, Lib.hid ⟨by rw [← HNX.out]; exact HP2.out.1, HX.out⟩⟩
            case measure => simp [intOf]; omega
    · obtain rfl : i = 4 := by omega
      have HE := Lib.hid HP.out.2
      go_wp2
      go_ret2
      exact ⟨_, rfl, by simpa [scanned] using HE.out.row, HE.out.below⟩
end
end Go.Proofs.YtkpekiajdlolnaaGreat

/-
  CONTRACTS OF THE DOCUMENT's SIDE (lone), seventh text: New.
-/
namespace Go.Proofs.YtkpekiajdlolnaaGreat
open Go.RowKit Go.Maps

theorem shardInfo : ∃ i, Tryz.prog.info? 191 = some i ∧ i.zero = some (.agg #[.int .i64 0, .slice none 0 0, .pointer none]) ∧ i.size = 3 ∧ i.bytes = 40 := by
  have h : (Tryz.prog.info? 191).map (fun i => (i.zero, i.size, i.bytes)) = some (some (.agg #[.int .i64 0, .slice none 0 0, .pointer none]), 3, 40) := by kernel_rfl
  obtain ⟨i, h1, h2⟩ := Option.map_eq_some_iff.1 h
  injection h2 with h2 h3
  injection h3 with h3 h4
  exact ⟨i, h1, h2, h3, h4⟩
def srows (h : Nat) : Nat → List Value
  | 0 => []
  | j + 1 => srows h j ++ [.int .i64 ((j : Int).tmod (h : Int)), .slice none 0 0, .pointer none]
theorem srows_get (h : Nat) : ∀ j i, i < j → (srows h j)[i * 3 + 1]? = some (.slice none 0 0) ∧ (srows h j)[i * 3 + 2]? = some (.pointer none) ∧ ∃ o : Int, (srows h j)[i * 3]? = some (.int .i64 o)
  | 0, i, hi => by omega
  | j + 1, i, hi => by
    have hl : ∀ j, (srows h j).length = j * 3 := fun j => by
      induction j with
      | zero => rfl
      | succ j ih => simp only [srows, List.length_append, ih, List.length_cons, List.length_nil]; omega
    unfold srows
    by_cases e : i = j
    · subst e
      rw [List.getElem?_append_right (by rw [hl]; omega), List.getElem?_append_right (by rw [hl]; omega), List.getElem?_append_right (by rw [hl]; omega), hl, show i * 3 + 1 - i * 3 = 1 by omega, show i * 3 + 2 - i * 3 = 2 by omega, show i * 3 - i * 3 = 0 by omega]
      exact ⟨rfl, rfl, _, rfl⟩
    · rw [List.getElem?_append_left (by rw [hl]; omega), List.getElem?_append_left (by rw [hl]; omega), List.getElem?_append_left (by rw [hl]; omega)]
      exact srows_get h j i (by omega)
theorem cells3 (w : World) (a b c : Value) (ty : TypeId) : ∀ (j : Nat) (u : Value), [a, b, c][j]? = some u → (w.alloc (.cells #[a, b, c] ty)).cell? ((⟨w.heap.size, 0, none⟩ : Addr).add j) = some u := fun j u hj => by
  rw [Addr.add_lit, Nat.zero_add]
  match j, hj with
  | 0, hj => simp at hj; subst hj; go_simp
  | 1, hj => simp at hj; subst hj; go_simp
  | 2, hj => simp at hj; subst hj; go_simp
/-- New's loop. -/
structure RNew (W w : World) (h ml j : Nat) (S : Value) : Prop where
  b : ∃ mc, w.heap[ml]? = some (.cells mc 188 (0, 0)) ∧ mc[1]? = some S
  row : w.ownsRow (ml + 1) 191 3 S j (srows h j)
  lo : W.heap.size ≤ ml
  below : Below W.heap.size W w
section
variable {W w w1 w3 : World} {h ml j : Nat} {S : Value}
theorem RNew.cell (H : RNew W w h ml j S) : w.cell? ⟨ml, 1, none⟩ = some S ∧ w.frozen? ⟨ml, 1, none⟩ = false ∧ ml < w.heap.size := by
  obtain ⟨mc, h1, h2⟩ := H.b
  exact ⟨by simp [World.cell?, h1, h2], by simp [World.frozen?, h1], (Array.getElem?_eq_some_iff.1 h1).1⟩
theorem RNew.app {g cap : Nat} {xs : List Value} (H : RNew W w h ml j S) (o : Obj) (hw : w1 = (w.alloc o).drew) (hg : w1.grownBy w3 S.ownBlock) (hr : w3.ownsRow (ml + 1) 191 3 (.slice (some ⟨g, 0, none⟩) (j + 1) cap) (j + 1) xs) :
    w3.cell? ⟨ml, 1, none⟩ = some S ∧ w3.frozen? ⟨ml, 1, none⟩ = false ∧ (xs = srows h (j + 1) → RNew W (w3.setCell ⟨ml, 1, none⟩ (.slice (some ⟨g, 0, none⟩) (j + 1) cap)) h ml (j + 1) (.slice (some ⟨g, 0, none⟩) (j + 1) cap)) := by
  subst hw
  obtain ⟨mc, h1, h2⟩ := H.b
  have hlt := H.cell.2.2
  have hne : some ml ≠ S.ownBlock := fun e => by have := (H.row.lt ml e.symm).1; omega
  have hb3 : w3.heap[ml]? = some (.cells mc 188 (0, 0)) := (hg.block ml (by simp; omega) hne).trans ((heap_alloc_old w o hlt).trans h1)
  refine ⟨by simp [World.cell?, hb3, h2], by simp [World.frozen?, hb3], fun e => ?_⟩
  subst e
  have hbel : Below W.heap.size W w3 := (show Below W.heap.size W (w.alloc o).drew from (H.below.alloc H.below.size o).drew).grown hg (by have := H.below.size; simp; omega) fun k hk => by have := (H.row.lt k hk).1; have := H.lo; omega
  refine ⟨⟨_, heap_setCell_same w3 ml 1 mc _ _ hb3, ?_⟩, ?_, H.lo, hbel.setCell H.lo _⟩
  · rw [Array.getElem?_setIfInBounds_self_of_lt ((Array.getElem?_eq_some_iff.1 h2).1)]
  · refine ownsRow_setCell_other hr (fun e => ?_) _
    have := (hr.lt ml e).1
    omega
def RNewPost (w : World) (e : Ending) (w' : World) : Prop := ∃ ml sb lv, e = .returned (.tuple #[.pointer (some ⟨ml, 0, none⟩), .bool true]) ∧ w.heap.size ≤ ml ∧ w.heap.size ≤ sb ∧ Mdl w' ml sb lv (fun _ => []) ∧ Below w.heap.size w w'
theorem RNew.mdl (H : RNew W w h ml 4 S) : ∃ sb lv, W.heap.size ≤ sb ∧ Mdl w ml sb lv (fun _ => []) := by
  obtain ⟨mc, h1, h2⟩ := H.b
  rcases H.row.2 with ⟨_, hz⟩ | ⟨g, cap, cur, rfl, hg, hb, hc, hm, hs, ht⟩
  · cases hz
  · refine ⟨g, fun _ => .slice none 0 0, by have := H.lo; omega, ⟨⟨cap, H.cell.1⟩, ⟨mc, h1⟩, ⟨cur, hb, fun i hi => ?_⟩, fun i hi => ⟨World.ownsRow_nil _ _ _ _, AllS.nil _⟩⟩⟩
    obtain ⟨g1, g2, o, g3⟩ := srows_get h 4 i hi
    rw [← ht] at g1 g2 g3
    rw [List.getElem?_take_of_lt (by omega)] at g1 g2 g3
    exact ⟨by simpa using g1, by simpa using g2, o, by simpa using g3⟩
set_option maxRecDepth 100000 in
theorem rnew_no (h : Int) (hh : h < 2 ∨ 4 < h) (hh2 : -9223372036854775808 ≤ h ∧ h ≤ 9223372036854775807) : Calls Tryz.prog 72 #[.int .i64 h] w fun e w' => e = .returned (.tuple #[.pointer none, .bool false]) ∧ w' = w := by
  rcases Int.lt_or_le h 2 with h2 | h2
  · have g1 : decide (h < 2) = true := by simp; omega
    go_enter Tryz.func72, Tryz.ntmps72
    go_wp2
    go_ret2
    exact ⟨rfl, rfl⟩
  · have g1 : decide (h < 2) = false := by simp; omega
    have g2 : decide (4 < h) = true := by simp; omega
    go_enter Tryz.func72, Tryz.ntmps72
    go_wp2
    go_ret2
    exact ⟨rfl, rfl⟩
set_option maxRecDepth 100000 in
set_option maxHeartbeats 1000000 in
theorem rnew_yes (h : Nat) (h2 : 2 ≤ h) (h4 : h ≤ 4) : Calls Tryz.prog 72 #[.int .i64 h] w (RNewPost w) := by
  have g1 : decide ((h : Int) < 2) = false := by simp; omega
  have g2 : decide ((4 : Int) < h) = false := by simp; omega
  have hh0 : ¬ h = 0 := by omega
  obtain ⟨si, s1, s2, s3, s4⟩ := shardInfo
  have HS := Lib.hid (And.intro s1 (And.intro s2 (And.intro s3 s4)))
  clear s1 s2 s3 s4
  go_enter Tryz.func72, Tryz.ntmps72
  go_wp2
  go_loopw [5] (fun i wr => ∃ j : Nat, j ≤ 4 ∧ i = .int .i64 j ∧ Hid (∃ S, RNew w wr h w.heap.size j S)) (fun i _ => 4 - (intOf i).toNat)
  case atStart =>
    refine ⟨0, by omega, rfl, Lib.hid ⟨.slice none 0 0, ⟨_, heap_alloc_new _ _, ?_⟩, World.ownsRow_nil _ _ _ _, Nat.le_refl _, (Below.refl _ _).alloc (Nat.le_refl _) _⟩⟩
    rfl
  case round =>
    obtain ⟨j, hj, rfl, HN⟩ := hrel
    by_cases hj4 : j < 4
    · obtain ⟨S, hN⟩ := HN.out
      have hN1 := Lib.hid hN
      obtain ⟨c1, f1, l1⟩ := hN1.out.cell
      clear hN
      go_wp2
      go_region_law (first | (refine step_append_lies _ rfl (.tmp 23) (.tmp 28) 185 rfl (w.heap.size + 1) 191 si _ 3 40 Tryz.underlying185 HS.out.1 HS.out.2.1 HS.out.2.2.1 HS.out.2.2.2 rfl (by decide) S j (srows h j) rfl (hN1.out.row.alloc _) ⟨wr.heap.size, 0, none⟩ 1 1 [.int .i64 ((j : Int).tmod (h : Int)), .slice none 0 0, .pointer none] rfl rfl (cells3 wr _ _ _ _) (by intro u hu; simp at hu; rcases hu with rfl | rfl | rfl <;> rfl) (by decide) (by unfold maxLen; omega) (by omega) (by simp; omega) _ rfl ?_; intro g cap w3 hrow3 hg3 hgg3 hlt3; have H3 := Lib.hid (hN1.out.app _ rfl hg3 hrow3); obtain ⟨d3, e3, _⟩ := H3.out; clear hrow3 hg3 hgg3 hlt3))
      all_goals
        go_wp2
        go_roundw
        case rel => exact ⟨j + 1, by omega, rfl, Lib.hid ⟨_, H3.out.2.2 rfl⟩⟩
        case measure => simp [intOf]; omega
    · obtain rfl : j = 4 := by omega
      obtain ⟨S, hN⟩ := HN.out
      have hN1 := Lib.hid hN
      clear hN
      go_wp2
      go_ret2
      obtain ⟨sb, lv, q1, q2⟩ := hN1.out.mdl
      exact ⟨_, sb, lv, rfl, Nat.le_refl _, q1, q2, hN1.out.below⟩
end
end Go.Proofs.YtkpekiajdlolnaaGreat

/-
  CONTRACTS (lone), eighth text: New.
-/
namespace Go.Proofs.YtkpekiajdlolnaaGreat
open Go.RowKit Go.Maps

section
variable {w : World}
def newD (w : World) : World := (w.alloc (.map #[] 0)).alloc (.cells #[.map (some w.heap.size)] 130)
set_option maxRecDepth 100000 in
theorem new_data : Calls Tryz.prog 41 #[] w fun e w' => e = .returned (.pointer (some ⟨w.heap.size + 1, 0, none⟩)) ∧ w' = newD w := by
  have hmm := @run_makeMap Tryz.prog
  go_enter Tryz.func41, Tryz.ntmps41
  go_wp2
  go_ret
  exact ⟨rfl, rfl⟩
theorem heap_alloc_new' (w : World) (o : Obj) {n : Nat} (h : n = w.heap.size) : (w.alloc o).heap[n]? = some o := by subst h; exact heap_alloc_new w o
theorem empty_kv {w' : World} {mb : Nat} (h : w'.heap[mb]? = some (.map #[] 0)) : MapKV w' mb [] := by
  have h0 : (({ w' with heap := #[] } : World).alloc (.map #[] 0)).ownsMap Tryz.prog 9 Rv 0 0 (DM []) := World.ownsMap_made _ _ _ _
  obtain ⟨es, ck, h1, F⟩ := h0
  have h2 : (({ w' with heap := #[] } : World).alloc (.map #[] 0)).heap[0]? = some (.map #[] 0) := rfl
  rw [h2] at h1
  cases h1
  exact ⟨#[], 0, h, F⟩
/-- New's loop: j shards stand. -/
structure NewAt (W w : World) (cl j : Nat) (db mb : Nat → Nat) : Prop where
  b : ∃ cur, w.heap[cl]? = some (.cells cur 70 (0, 0)) ∧ cur.size = 16 ∧ ∀ i, i < j → cur[1 + i * 3 + 1]? = some (.pointer (some ⟨db i, 0, none⟩)) ∧ cur[1 + i * 3 + 2]? = some (.pointer none)
  d : ∀ i, i < j → w.heap[db i]? = some (.cells #[.map (some (mb i))] 130 (0, 0)) ∧ w.heap[mb i]? = some (.map #[] 0) ∧ cl < db i ∧ cl < mb i
  ne : ∀ i i', i < j → i' < j → mb i = mb i' → i = i'
  cl : W.heap.size ≤ cl
  below : Below W.heap.size W w
theorem NewAt.cells {W w : World} {cl j : Nat} {db mb : Nat → Nat} (h : NewAt W w cl j db mb) {k : Nat} (hk : k < 16) : (∃ v, w.cell? ⟨cl, k, none⟩ = some v) ∧ w.frozen? ⟨cl, k, none⟩ = false := by
  obtain ⟨cur, h1, h2, _⟩ := h.b
  exact ⟨⟨cur[k]'(by omega), by simp [World.cell?, h1, show k < cur.size by omega]⟩, by simp [World.frozen?, h1]⟩
theorem NewAt.lt {W w : World} {cl j : Nat} {db mb : Nat → Nat} (h : NewAt W w cl j db mb) : cl < w.heap.size := by
  obtain ⟨cur, h1, _⟩ := h.b
  exact (Array.getElem?_eq_some_iff.1 h1).1
/-- behind shard.New. -/
theorem NewAt.made {W w w' : World} {cl j : Nat} {db mb : Nat → Nat} (h : NewAt W w cl j db mb) (e : w' = newD (w.drewN 1)) :
    NewAt W w' cl j db mb ∧ w'.heap[w.heap.size + 1]? = some (.cells #[.map (some w.heap.size)] 130 (0, 0)) ∧ w'.heap[w.heap.size]? = some (.map #[] 0) ∧ (∀ i, i < j → mb i < w.heap.size) ∧ cl < w.heap.size ∧ w'.heap.size = w.heap.size + 2 := by
  subst e
  have hz : (newD (w.drewN 1)).heap = (w.heap.push (.map #[] 0)).push (.cells #[.map (some w.heap.size)] 130 (0, 0)) := rfl
  have old : ∀ b, b < w.heap.size → (newD (w.drewN 1)).heap[b]? = w.heap[b]? := fun b hb => by
    rw [hz, Array.getElem?_push, if_neg (by simp; omega), Array.getElem?_push, if_neg (by omega)]
  obtain ⟨cur, h1, h2, h3⟩ := h.b
  refine ⟨⟨⟨cur, (old _ h.lt).trans h1, h2, h3⟩, fun i hi => ?_, h.ne, h.cl, ?_⟩, ?_, ?_, fun i hi => ?_, h.lt, ?_⟩
  · obtain ⟨h4, h5, h6⟩ := h.d i hi
    exact ⟨(old _ (Array.getElem?_eq_some_iff.1 h4).1).trans h4, (old _ (Array.getElem?_eq_some_iff.1 h5).1).trans h5, h6⟩
  · exact ⟨h.below.os, h.below.tape, h.below.output, by rw [hz]; have := h.below.size; simp; omega, fun k hk => (old k (Nat.lt_of_lt_of_le hk h.below.size)).trans (h.below.block k hk)⟩
  · rw [hz, Array.getElem?_push, if_pos (by simp)]
  · rw [hz, Array.getElem?_push, if_neg (by simp), Array.getElem?_push, if_pos rfl]
  · exact (Array.getElem?_eq_some_iff.1 (h.d i hi).2.1).1
  · rw [hz]; simp
/-- behind the store. -/
theorem NewAt.stored {W w w' : World} {cl j : Nat} {db mb : Nat → Nat} {v : Value} {m : Nat} (h : NewAt W w cl j db mb) (hj : j < 4)
    (hd : w.heap[m + 1]? = some (.cells #[.map (some m)] 130 (0, 0))) (hm : w.heap[m]? = some (.map #[] 0)) (hlt : ∀ i, i < j → mb i < m) (hcl : cl < m)
    (e : w' = ((w.setCell ⟨cl, 1 + j * 3, none⟩ v).setCell ⟨cl, 1 + j * 3 + 1, none⟩ (.pointer (some ⟨m + 1, 0, none⟩))).setCell ⟨cl, 1 + j * 3 + 2, none⟩ (.pointer none)) : NewAt W w' cl (j + 1) (setV db j (m + 1)) (setV mb j m) := by
  subst e
  obtain ⟨cur, h1, h2, h3⟩ := h.b
  have s1 := heap_setCell_same w cl (1 + j * 3) cur _ v h1
  have s2 := heap_setCell_same _ cl (1 + j * 3 + 1) _ _ (.pointer (some ⟨m + 1, 0, none⟩)) s1
  have s3 := heap_setCell_same _ cl (1 + j * 3 + 2) _ _ (.pointer none) s2
  have ho : ∀ b, b ≠ cl → (((w.setCell ⟨cl, 1 + j * 3, none⟩ v).setCell ⟨cl, 1 + j * 3 + 1, none⟩ (.pointer (some ⟨m + 1, 0, none⟩))).setCell ⟨cl, 1 + j * 3 + 2, none⟩ (.pointer none)).heap[b]? = w.heap[b]? := fun b hb => by
    rw [heap_setCell_other _ _ _ _ hb, heap_setCell_other _ _ _ _ hb, heap_setCell_other _ _ _ _ hb]
  refine ⟨⟨_, s3, by simp [h2], fun i hi => ?_⟩, fun i hi => ?_, fun i i' hi hi' he => ?_, h.cl, ((h.below.setCell h.cl _).setCell h.cl _).setCell h.cl _⟩
  · unfold setV
    by_cases e : i = j
    · subst e
      rw [if_pos rfl]
      constructor
      · rw [Array.getElem?_setIfInBounds_ne (by omega), Array.getElem?_setIfInBounds_self_of_lt (by simp; omega)]
      · rw [Array.getElem?_setIfInBounds_self_of_lt (by simp; omega)]
    · obtain ⟨h4, h5⟩ := h3 i (by omega)
      rw [if_neg e]
      constructor
      · rw [Array.getElem?_setIfInBounds_ne (by omega), Array.getElem?_setIfInBounds_ne (by omega), Array.getElem?_setIfInBounds_ne (by omega), h4]
      · rw [Array.getElem?_setIfInBounds_ne (by omega), Array.getElem?_setIfInBounds_ne (by omega), Array.getElem?_setIfInBounds_ne (by omega), h5]
  · unfold setV
    by_cases e : i = j
    · rw [if_pos e, if_pos e]
      exact ⟨(ho _ (by omega)).trans hd, (ho _ (by omega)).trans hm, by omega, hcl⟩
    · rw [if_neg e, if_neg e]
      obtain ⟨h4, h5, h6, h7⟩ := h.d i (by omega)
      exact ⟨(ho _ (by omega)).trans h4, (ho _ (by omega)).trans h5, h6, h7⟩
  · unfold setV at he
    by_cases e1 : i = j
    · by_cases e2 : i' = j
      · omega
      · rw [if_pos e1, if_neg e2] at he
        have := hlt i' (by omega)
        omega
    · by_cases e2 : i' = j
      · rw [if_neg e1, if_pos e2] at he
        have := hlt i (by omega)
        omega
      · rw [if_neg e1, if_neg e2] at he
        exact h.ne i i' (by omega) (by omega) he
def NewPost (w : World) (e : Ending) (w' : World) : Prop := ∃ cl db mb, e = .returned (.tuple #[.pointer (some ⟨cl, 0, none⟩), .int .i64 0]) ∧ NewAt w w' cl 4 db mb
set_option maxRecDepth 100000 in
theorem new_no (h : Int) (hh : h < 2 ∨ 4 < h) (hh2 : -9223372036854775808 ≤ h ∧ h ≤ 9223372036854775807) : Calls Tryz.prog 28 #[.int .i64 h] w fun e w' => e = .returned (.tuple #[.pointer none, .int .i64 1]) ∧ w' = w := by
  rcases Int.lt_or_le h 2 with h2 | h2
  · have g1 : decide (h < 2) = true := by simp; omega
    go_enter Tryz.func28, Tryz.ntmps28
    go_wp2
    go_ret2
    exact ⟨rfl, rfl⟩
  · have g1 : decide (h < 2) = false := by simp; omega
    have g2 : decide (4 < h) = true := by simp; omega
    go_enter Tryz.func28, Tryz.ntmps28
    go_wp2
    go_ret2
    exact ⟨rfl, rfl⟩
set_option maxRecDepth 100000 in
set_option maxHeartbeats 1000000 in
theorem new_yes (h : Nat) (h2 : 2 ≤ h) (h4 : h ≤ 4) : Calls Tryz.prog 28 #[.int .i64 h] w (NewPost w) := by
  have hmm := @run_makeMap Tryz.prog
  have g1 : decide ((h : Int) < 2) = false := by simp; omega
  have g2 : decide ((4 : Int) < h) = false := by simp; omega
  go_enter Tryz.func28, Tryz.ntmps28
  go_wp2
  go_loopw [16] (fun i wr => ∃ j : Nat, j ≤ 4 ∧ i = .int .i64 j ∧ Hid (∃ db mb, NewAt w wr (w.heap.size + 1) j db mb)) (fun i _ => 4 - (intOf i).toNat)
  case atStart =>
    refine ⟨0, by omega, rfl, Lib.hid ⟨fun _ => 0, fun _ => 0, ⟨_, heap_alloc_new' _ _ (by simp), ?_, fun i hi => by omega⟩, fun i hi => by omega, fun i _ hi => by omega, by omega, ((Below.refl _ _).alloc (Nat.le_refl _) _).alloc (by simp) _⟩⟩
    rfl
  case round =>
    obtain ⟨j, hj, rfl, HN⟩ := hrel
    by_cases hj4 : j < 4
    · obtain ⟨db, mb, hN⟩ := HN.out
      have hN1 := Lib.hid hN
      clear hN
      go_wp2
      go_region_with (first | (go_at_call 41; refine new_data.mono ?_; rintro e w2 ⟨rfl, h2⟩; have H2 := Lib.hid (hN1.out.made h2); obtain ⟨⟨v0, c0⟩, f0⟩ := H2.out.1.cells (k := 1 + j * 3) (by omega); obtain ⟨⟨v1, c1⟩, f1⟩ := H2.out.1.cells (k := 1 + j * 3 + 1) (by omega); obtain ⟨⟨v2, c2⟩, f2⟩ := H2.out.1.cells (k := 1 + j * 3 + 2) (by omega); clear h2))
      all_goals
        go_wp2
        go_roundw
        case rel => exact ⟨j + 1, by omega, rfl, Lib.hid ⟨_, _, H2.out.1.stored hj4 H2.out.2.1 H2.out.2.2.1 H2.out.2.2.2.1 H2.out.2.2.2.2.1 rfl⟩⟩
        case measure => simp [intOf]; omega
    · obtain rfl : j = 4 := by omega
      obtain ⟨db, mb, hN⟩ := HN.out
      have hN1 := Lib.hid hN
      clear hN
      go_wp2
      go_ret2
      exact ⟨_, _, _, rfl, hN1.out⟩
end
end Go.Proofs.YtkpekiajdlolnaaGreat

/-
  THE LAW's WORLD: clusters on both sides.
-/
namespace Go.Proofs.YtkpekiajdlolnaaGreat
open Go.RowKit Go.Maps

/-- a cluster on both sides: L: the program's shards, M: the document's. -/
structure Cst where
  cl : Nat
  db : Nat → Nat
  mb : Nat → Nat
  ml : Nat
  sb : Nat
  L : Nat → KV
  M : Nat → KV
structure CstAt (n0 : Nat) (w : World) (c : Cst) : Prop where
  clu : Clu w c.cl c.db c.mb c.L
  mdl : ∃ lv, Mdl w c.ml c.sb lv c.M
  len : ∀ i, i < 4 → (c.M i).length ≤ 12
  ris : ∀ i, i < 4 → Rising (c.L i) ∧ Rising (c.M i)
  key : ∀ i, i < 4 → ∀ p ∈ c.L i, p.1.length ≤ 8
  tcl : ∃ cc, w.heap[c.cl]? = some (.cells cc 70 (0, 0))
  tdb : ∀ i, i < 4 → w.heap[c.db i]? = some (.cells #[.map (some (c.mb i))] 130 (0, 0))
  nmb : ∀ i, i < 4 → n0 ≤ c.mb i
  nsb : n0 ≤ c.sb
/-- two clusters write nothing of each other's. -/
def Apart (c d : Cst) : Prop := c.sb ≠ d.sb ∧ ∀ i j, i < 4 → j < 4 → c.mb i ≠ d.mb j
section
variable {n0 : Nat} {w w' : World} {c d : Cst}
/-- what happens to blocks that are none of a cluster's. -/
theorem CstAt.but {B : Nat → Prop} (h : CstAt n0 w c) (hb : But B w w') (hcl : ¬ B c.cl) (hdb : ∀ i, i < 4 → ¬ B (c.db i)) (hmb : ∀ i, i < 4 → ¬ B (c.mb i)) (hml : ¬ B c.ml) (hsb : ¬ B c.sb) (hrow : ∀ b cur, w.heap[b]? = some (.cells cur 62 (0, 0)) → ¬ B b) : CstAt n0 w' c := by
  obtain ⟨lv, hm⟩ := h.mdl
  have lt := fun i hi => (h.clu.p i hi).lt
  obtain ⟨l1, l2⟩ := hm.lts
  have kcl := hb.keep c.cl (lt 0 (by decide)).1 hcl
  have kdb := fun i (hi : i < 4) => hb.keep (c.db i) (lt i hi).2.1 (hdb i hi)
  have kmb := fun i (hi : i < 4) => hb.keep (c.mb i) (lt i hi).2.2 (hmb i hi)
  have kml := hb.keep c.ml l1 hml
  have ksb := hb.keep c.sb l2 hsb
  obtain ⟨cap, h1⟩ := hm.s
  obtain ⟨mc, h2⟩ := hm.t
  obtain ⟨cur, h3, h4⟩ := hm.b
  obtain ⟨cc, h5⟩ := h.tcl
  refine ⟨⟨fun i hi => (h.clu.p i hi).block fun b hb => by rcases hb with rfl | rfl | rfl; exact kcl; exact kdb i hi; exact kmb i hi, h.clu.ne, h.clu.len⟩, ⟨lv, ⟨cap, (World.cell?_of_block kml).trans h1⟩, ⟨mc, kml.trans h2⟩, ⟨cur, ksb.trans h3, h4⟩, fun i hi => (hm.r i hi).block fun g hg => ?_⟩, h.len, h.ris, h.key, ⟨cc, kcl.trans h5⟩, fun i hi => (kdb i hi).trans (h.tdb i hi), h.nmb, h.nsb⟩
  obtain ⟨cur', hc⟩ := (hm.r i hi).ty hg
  exact hb.keep g (Array.getElem?_eq_some_iff.1 hc).1 (hrow g cur' hc)
theorem CstAt.idle (h : CstAt n0 w c) (hb : But (fun _ => False) w w') : CstAt n0 w' c := h.but hb id (fun _ _ => id) (fun _ _ => id) id id fun _ _ _ => id
theorem CstAt.below (h : CstAt n0 w c) (hb : Below w.heap.size w w') : CstAt n0 w' c := h.but (B := fun _ => False) (.of_below hb) id (fun _ _ => id) (fun _ _ => id) id id fun _ _ _ => id
/-- a block of maps is none of cells. -/
theorem map_ne {m : Nat} {L : KV} {b : Nat} {cur : Array Value} {ty : TypeId} (hm : MapKV w m L) (hb : w.heap[b]? = some (.cells cur ty (0, 0))) : b ≠ m := fun e => by
  obtain ⟨es, ck, h, _⟩ := hm
  rw [e, h] at hb
  cases hb
/-- the program's side turns. -/
theorem CstAt.turn {X : Nat → KV} (h : CstAt n0 w c) (hb : But (fun b => ∃ i, i < 4 ∧ b = c.mb i) w w') (hc : Clu w' c.cl c.db c.mb X) (hr : ∀ i, i < 4 → Rising (X i)) (hk : ∀ i, i < 4 → ∀ p ∈ X i, p.1.length ≤ 8) : CstAt n0 w' { c with L := X } := by
  obtain ⟨lv, hm⟩ := h.mdl
  obtain ⟨l1, l2⟩ := hm.lts
  obtain ⟨cap, h1⟩ := hm.s
  obtain ⟨mc, h2⟩ := hm.t
  obtain ⟨cur, h3, h4⟩ := hm.b
  obtain ⟨cc, h5⟩ := h.tcl
  have no : ∀ (b : Nat) (cur : Array Value) (ty : TypeId), w.heap[b]? = some (Obj.cells cur ty (0, 0)) → w'.heap[b]? = w.heap[b]? := fun b cur ty hbb => hb.keep b (Array.getElem?_eq_some_iff.1 hbb).1 fun ⟨i, hi, e⟩ => map_ne (h.clu.p i hi).l hbb e
  have kml := no _ _ _ h2
  refine ⟨hc, ⟨lv, ⟨cap, (World.cell?_of_block kml).trans h1⟩, ⟨mc, kml.trans h2⟩, ⟨cur, (no _ _ _ h3).trans h3, h4⟩, fun i hi => (hm.r i hi).block fun g hg => ?_⟩, h.len, fun i hi => ⟨hr i hi, (h.ris i hi).2⟩, hk, ⟨cc, (no _ _ _ h5).trans h5⟩, fun i hi => (no _ _ _ (h.tdb i hi)).trans (h.tdb i hi), h.nmb, h.nsb⟩
  obtain ⟨cur', hc⟩ := (hm.r i hi).ty hg
  exact no _ _ _ hc
/-- .. and the other cluster stands. -/
theorem CstAt.turned (h : CstAt n0 w c) (hd : CstAt n0 w d) (ha : Apart c d) (hb : But (fun b => ∃ i, i < 4 ∧ b = c.mb i) w w') : CstAt n0 w' d := by
  obtain ⟨lv, hm⟩ := hd.mdl
  obtain ⟨mc, h2⟩ := hm.t
  obtain ⟨cur, h3, h4⟩ := hm.b
  obtain ⟨cc, h5⟩ := hd.tcl
  have no : ∀ (b : Nat) (cur : Array Value) (ty : TypeId), w.heap[b]? = some (Obj.cells cur ty (0, 0)) → ¬ ∃ i, i < 4 ∧ b = c.mb i := fun b cur ty hbb ⟨i, hi, e⟩ => map_ne (h.clu.p i hi).l hbb e
  exact hd.but hb (no _ _ _ h5) (fun i hi => no _ _ _ (hd.tdb i hi)) (fun i hi ⟨j, hj, e⟩ => ha.2 j i hj hi e.symm) (no _ _ _ h2) (no _ _ _ h3) fun b cur hbb => no _ _ _ hbb
/-- the document's side turns. -/
theorem CstAt.turnM {X : Nat → KV} (h : CstAt n0 w c) (hb : But (· = c.sb) w w') (hm' : ∃ lv, Mdl w' c.ml c.sb lv X) (hl : ∀ i, i < 4 → (X i).length ≤ 12) (hr : ∀ i, i < 4 → Rising (X i)) : CstAt n0 w' { c with M := X } := by
  obtain ⟨lv, hm⟩ := h.mdl
  obtain ⟨cur, h3, h4⟩ := hm.b
  obtain ⟨cc, h5⟩ := h.tcl
  have lt := fun i hi => (h.clu.p i hi).lt
  have ncl : c.cl ≠ c.sb := fun e => by rw [e, h3] at h5; cases h5
  have ndb : ∀ i, i < 4 → c.db i ≠ c.sb := fun i hi e => by have := h.tdb i hi; rw [e, h3] at this; cases this
  have nmb : ∀ i, i < 4 → c.mb i ≠ c.sb := fun i hi e => map_ne (h.clu.p i hi).l h3 e.symm
  have kcl := hb.keep c.cl (lt 0 (by decide)).1 ncl
  have kdb := fun i (hi : i < 4) => hb.keep (c.db i) (lt i hi).2.1 (ndb i hi)
  have kmb := fun i (hi : i < 4) => hb.keep (c.mb i) (lt i hi).2.2 (nmb i hi)
  exact ⟨⟨fun i hi => (h.clu.p i hi).block fun b hb => by rcases hb with rfl | rfl | rfl; exact kcl; exact kdb i hi; exact kmb i hi, h.clu.ne, h.clu.len⟩, hm', hl, fun i hi => ⟨(h.ris i hi).1, hr i hi⟩, h.key, ⟨cc, kcl.trans h5⟩, fun i hi => (kdb i hi).trans (h.tdb i hi), h.nmb, h.nsb⟩
theorem CstAt.turnedM (h : CstAt n0 w c) (hd : CstAt n0 w d) (ha : Apart c d) (hb : But (· = c.sb) w w') : CstAt n0 w' d := by
  obtain ⟨lv, hm⟩ := h.mdl
  obtain ⟨cur, h3, _⟩ := hm.b
  obtain ⟨lv', hm'⟩ := hd.mdl
  obtain ⟨mc, h2⟩ := hm'.t
  obtain ⟨cc, h5⟩ := hd.tcl
  exact hd.but hb (fun e => by rw [e, h3] at h5; cases h5) (fun i hi e => by have := hd.tdb i hi; rw [e, h3] at this; cases this) (fun i hi e => map_ne (hd.clu.p i hi).l h3 e.symm) (fun e => by rw [e, h3] at h2; cases h2) (fun e => ha.1 e.symm) fun b cur' hbb e => by rw [e, h3] at hbb; cases hbb
/-- the cells of the law's list of clusters. -/
def prow (cs : List Cst) : List Value := cs.flatMap fun c => [.pointer (some ⟨c.cl, 0, none⟩), .pointer (some ⟨c.ml, 0, none⟩)]
theorem prow_append (a b : List Cst) : prow (a ++ b) = prow a ++ prow b := List.flatMap_append
theorem prow_get : ∀ (cs : List Cst) (k : Nat) (c : Cst), cs[k]? = some c → (prow cs)[k * 2]? = some (.pointer (some ⟨c.cl, 0, none⟩)) ∧ (prow cs)[k * 2 + 1]? = some (.pointer (some ⟨c.ml, 0, none⟩))
  | [], k, p, h => by simp at h
  | q :: L, 0, p, h => by simp at h; subst h; exact ⟨rfl, rfl⟩
  | q :: L, k + 1, p, h => by
    show ((.pointer (some ⟨q.cl, 0, none⟩) : Value) :: .pointer (some ⟨q.ml, 0, none⟩) :: prow L)[(k + 1) * 2]? = _ ∧ ((.pointer (some ⟨q.cl, 0, none⟩) : Value) :: .pointer (some ⟨q.ml, 0, none⟩) :: prow L)[(k + 1) * 2 + 1]? = _
    rw [show (k + 1) * 2 = k * 2 + 1 + 1 by omega]
    simpa using prow_get L k p (by simpa using h)
theorem prow_turn (cs : List Cst) (k : Nat) (c d : Cst) (h : cs[k]? = some c) (e1 : d.cl = c.cl) (e2 : d.ml = c.ml) : prow (cs.set k d) = prow cs := by
  induction cs generalizing k with
  | nil => rfl
  | cons q L ih =>
    cases k with
    | zero => simp at h; subst h; simp [prow, e1, e2]
    | succ k => simp only [List.set_cons_succ]; show _ :: _ :: prow (L.set k d) = _ :: _ :: prow L; rw [ih k (by simpa using h)]
/-- the law's world. -/
structure LawAt (n0 : Nat) (w : World) (W : Nat) (n : Nat) (cs : List Cst) : Prop where
  lo : n0 ≤ W
  b : ∃ CS S, LsAt n0 w W CS S n ∧ w.ownsRow n0 149 2 CS cs.length (prow cs)
  each : ∀ c ∈ cs, CstAt n0 w c
  apart : cs.Pairwise Apart
theorem Apart.symm {c d : Cst} (h : Apart c d) : Apart d c := ⟨fun e => h.1 e.symm, fun i j hi hj e => h.2 j i hj hi e.symm⟩
theorem LawAt.two {W n : Nat} {cs : List Cst} (h : LawAt n0 w W n cs) {i j : Nat} {c d : Cst} (hc : cs[i]? = some c) (hd : cs[j]? = some d) (hij : i ≠ j) : Apart c d := by
  obtain ⟨hi, rfl⟩ := List.getElem?_eq_some_iff.1 hc
  obtain ⟨hj, rfl⟩ := List.getElem?_eq_some_iff.1 hd
  rcases Nat.lt_or_ge i j with h1 | h1
  · exact List.pairwise_iff_getElem.1 h.apart i j hi hj h1
  · exact (List.pairwise_iff_getElem.1 h.apart j i hj hi (by omega)).symm
/-- one cluster turns, the others and the law's own blocks stand. -/
theorem LawAt.turn {W n k : Nat} {cs : List Cst} {c d : Cst} {B : Nat → Prop} (h : LawAt n0 w W n cs) (hk : cs[k]? = some c) (hb : But B w w') (hd : CstAt n0 w' d) (e1 : d.cl = c.cl) (e2 : d.ml = c.ml) (e3 : d.sb = c.sb) (e4 : d.mb = c.mb)
    (hoth : ∀ x, CstAt n0 w x → Apart c x → CstAt n0 w' x) (hty : ∀ (b : Nat) (cur : Array Value) (ty : TypeId), w.heap[b]? = some (Obj.cells cur ty (0, 0)) → ty ≠ 191 → ¬ B b) : LawAt n0 w' W n (cs.set k d) := by
  obtain ⟨CS, S, h5, h4⟩ := h.b
  obtain ⟨cur, h1, _⟩ := h5.b
  obtain ⟨xs, h6⟩ := h5.row
  have hsz : ∀ (b : Nat) (cur : Array Value) (ty : TypeId), w.heap[b]? = some (Obj.cells cur ty (0, 0)) → ty ≠ 191 → w'.heap[b]? = w.heap[b]? := fun b cur ty hbb hne => hb.keep b (Array.getElem?_eq_some_iff.1 hbb).1 (hty b cur ty hbb hne)
  have hrow : ∀ {v : Value} {m size : Nat} {ty : TypeId} {ys : List Value}, w.ownsRow n0 ty size v m ys → ty ≠ 191 → w'.ownsRow n0 ty size v m ys := fun {v m size ty ys} hr hne => ownsRow_block hr fun g hg => by
    obtain ⟨c, hc⟩ := row_ty hr hg
    exact hsz g c ty hc hne
  refine ⟨h.lo, ⟨CS, S, h5.block (hsz W _ _ h1 (by decide)) (fun g hg => ?_), ?_⟩, fun x hx => ?_, ?_⟩
  · obtain ⟨c, hc⟩ := row_ty h6 hg
    exact hsz g c _ hc (by decide)
  · rw [prow_turn cs k c d hk e1 e2, List.length_set]
    exact hrow h4 (by decide)
  · obtain ⟨j, hj⟩ := List.mem_iff_getElem?.1 hx
    by_cases e : j = k
    · subst e
      rw [List.getElem?_set_self (List.getElem?_eq_some_iff.1 hk).1] at hj
      cases hj
      exact hd
    · rw [List.getElem?_set_ne (fun x => e x.symm)] at hj
      exact hoth x (h.each x (List.mem_of_getElem? hj)) (h.two hk hj fun x => e x.symm)
  · have key : ∀ x, Apart c x → Apart d x := fun x ha => ⟨by rw [e3]; exact ha.1, by rw [e4]; exact ha.2⟩
    rw [List.pairwise_iff_getElem]
    intro i j hi hj hij
    simp only [List.length_set] at hi hj
    have hkl := (List.getElem?_eq_some_iff.1 hk).1
    have ha := List.pairwise_iff_getElem.1 h.apart i j hi hj hij
    rw [List.getElem_set, List.getElem_set]
    have hck : cs[k] = c := (List.getElem?_eq_some_iff.1 hk).2
    split
    · rename_i e
      subst e
      rw [if_neg (by omega)]
      rw [hck] at ha
      exact key _ ha
    · split
      · rename_i e1 e
        subst e
        rw [hck] at ha
        exact (key _ ha.symm).symm
      · exact ha
end
end Go.Proofs.YtkpekiajdlolnaaGreat
