/-
  PROVED IN PARTS: text 2 of 10 of the carrying ground of the claim (see each part's own remark). Conditions: those that each theorem names.
-/
import Derived.Test.YtkpekiajdlolnabGreatM01
set_option linter.unusedVariables false
set_option linter.unusedSimpArgs false

/-
  THE SIMULATION, seventh text: conversions, append, the builtins, calls; one operation.
-/
namespace Go.Proofs.YtkpekiajdlolnabGreat.Sim
open Go

section
variable {X : Cx} {Fb : FuncId → Bool} {ρ : Rel} {α β : Type}

/-! ### conversions -/
theorem markString_run (P : Program) (w : World) (e : TypeId) (c : Array Value) :
    (do let a ← newRow e c; markStringish a; Pure.pure a : Sem Addr).run P w = .ok ⟨w.heap.size, 0, none⟩ { w with heap := w.heap.push (.cells c e (c.size, c.size + 1)) } := by
  simp only [newRow, markStringish, newObj, shape, freeze, bind, Sem.bind, Sem.run, Pure.pure, World.shape?, Array.getElem?_push_size, World.freeze, Nat.one_ne_zero, if_false]
  congr 1
  congr 1
  refine Array.ext_getElem? fun i => ?_
  rw [Array.getElem?_modify]
  by_cases h : w.heap.size = i
  · subst h; simp
  · simp [Array.getElem?_push, h, Ne.symm h]
theorem markString_runT (P : Program) (w : World) (e : TypeId) (c : Array Value) (es : Array Event) :
    (do let a ← newRow e c; markStringish a; Pure.pure a : Sem Addr).runT P w es = (.ok ⟨w.heap.size, 0, none⟩ { w with heap := w.heap.push (.cells c e (c.size, c.size + 1)) }, es) := by
  have h1 := markString_run P w e c
  rw [← Sem.runT_fst P _ w es] at h1
  have h2 : ((do let a ← newRow e c; markStringish a; Pure.pure a : Sem Addr).runT P w es).2 = es := by
    simp only [newRow, markStringish, newObj, shape, freeze, bind, Sem.bind, Sem.runT, Pure.pure, World.shape?, Array.getElem?_push_size]
  exact Prod.ext h1 h2
theorem SS.markString (e : TypeId) {c c' : Array Value} (h : VsR X.F ρ c.toList c'.toList) :
    SS X ρ (do let a ← Go.newRow e c; markStringish a; Pure.pure a : Sem Addr) (do let a ← Go.newRow e c'; markStringish a; Pure.pure a : Sem Addr) (fun ρ1 a a' => AR ρ1 a a') := by
  refine ⟨fun w w' a w1 es hw hr => ?_, fun w w' x w1 hw hr => (by rw [markString_run] at hr; cases hr), fun w w' _ => .quiet fun es => by rw [markString_runT]⟩
  rw [markString_run] at hr
  cases hr
  have key := SS.newObj (X := X) (ρ := ρ) (o := .cells c e (c.size, c.size + 1)) (o' := .cells c' e (c'.size, c'.size + 1)) (fun r r' => .cells (h.mono (addPair_le ρ r r')) (.inl (by rw [h.size])))
  obtain ⟨ρ1, r', w1', es1, h1, h2, h3, h4, h5, h6, h7⟩ := key.1 w w' w.heap.size _ es hw rfl
  have h1' : (Result.ok w'.heap.size { w' with heap := w'.heap.push (.cells c' e (c'.size, c'.size + 1)) }, es) = (Result.ok r' w1', es ++ es1) := h1
  obtain ⟨e1, e2⟩ := Prod.mk.inj h1'
  cases e1
  exact ⟨ρ1, ⟨w'.heap.size, 0, none⟩, _, es1, by rw [markString_runT, ← e2], h2, h3, h4, h5, ⟨h6, rfl, rfl⟩, h7⟩
theorem SS.stringToBytes (e : TypeId) (s : ByteArray) : SS X ρ (Conv.stringToBytes e s) (Conv.stringToBytes e s) (fun ρ1 v v' => VR X.F ρ1 v v') := by
  have eq : ∀ s : ByteArray, Conv.stringToBytes e s = (do
      let cap ← Go.choose (.appendCap s.size 0 e)
      let a ← (do let a ← Go.newRow e (s.data.map (fun b => Value.int .u8 b.toNat) ++ Array.replicate (cap - s.size) (.int .u8 0)); markStringish a; Pure.pure a : Sem Addr)
      Pure.pure (.slice (some a) s.size cap)) := by
    intro s
    unfold Conv.stringToBytes
    simp only [bind_assoc, pure_bind]
  rw [eq]
  refine (SS.choose _).bind fun ρ1 n n' le e => ?_
  subst e
  refine (SS.markString _ ?_).bind fun ρ2 a a' _ ha => SS.pure (ha.slice _ _)
  refine VsR.aappend (VsR.amap _ _ _ fun _ => .int _ _) ?_
  rw [Array.toList_replicate]
  exact VsR.replicate (.int _ _) _
theorem SS.bytesLoop : ∀ {l l' : List Value} {ρ : Rel}, VsR X.F ρ l l' → ∀ (s : ByteArray), SS X ρ
    (forIn l s fun c s => do
      let .int .u8 n := c | stuck "bytesToString: byte expected"
      let s := s.push (UInt8.ofNat n.toNat)
      Pure.pure (ForInStep.yield s) : Sem ByteArray)
    (forIn l' s fun c s => do
      let .int .u8 n := c | stuck "bytesToString: byte expected"
      let s := s.push (UInt8.ofNat n.toNat)
      Pure.pure (ForInStep.yield s) : Sem ByteArray) (fun _ b b' => b = b')
  | [], _, _, h, s => by cases h; exact SS.pure rfl
  | v :: l, _, ρ, h, s => by
    cases h with
    | cons a b =>
      rw [List.forIn_cons, List.forIn_cons]
      cases a with
      | int k n =>
        cases k <;> first | exact SS.bytesLoop b _ | exact SS.dies (Dies.bindL (Dies.stuck _))
      | _ => exact SS.dies (Dies.bindL (Dies.stuck _))
theorem SS.bytesToString {x x' : Value} (h : VR X.F ρ x x') : SS X ρ (Conv.bytesToString x) (Conv.bytesToString x') (fun ρ1 v v' => VR X.F ρ1 v v') := by
  unfold Conv.bytesToString
  cases h with
  | sliceNil n c => exact SS.pure (.string _)
  | slice r =>
    simp only
    refine (SS.loadCells (AR.of r) _).bind fun ρ1 c c' le hc => ?_
    rw [← Array.forIn_toList, ← Array.forIn_toList]
    refine SS.bind (SS.bytesLoop hc _) fun _ s s' _ e => ?_
    subst e
    exact SS.pure (.string _)
  | _ => exact SS.halt

/-- Which conversions are served. -/
def convOk (P : Program) (s d : TypeId) : Bool :=
  match P.underlying s, P.underlying d with
  | some (.int _), some (.int _) => true
  | some (.slice e), some .string => match P.underlying e with | some (.int .u8) => true | _ => false
  | some .string, some (.slice e) => match P.underlying e with | some (.int .u8) => true | _ => false
  | _, _ => false
theorem SS.convert (H : X.Ok Fb) (s d : TypeId) (h : convOk X.P s d = true) {x x' : Value} (hx : VR X.F ρ x x') : SS X ρ (Go.convert s d x) (Go.convert s d x') (fun ρ1 v v' => VR X.F ρ1 v v') := by
  unfold Go.convert
  refine (SS.underlying H s).bind fun ρ1 ds ds' le ⟨e, hs⟩ => ?_
  subst e
  refine (SS.underlying H d).bind fun ρ2 dd dd' le2 ⟨e, hd⟩ => ?_
  subst e
  have hx2 := (hx.mono le).mono le2
  unfold convOk at h
  rw [hs, hd] at h
  clear hs hd
  cases ds <;> cases dd <;> first | (exact Bool.noConfusion h) | skip
  · cases hx2 <;> first | exact SS.pure (.int _ _) | exact SS.halt
  · rename_i _ e _
    simp only at h
    cases he : X.P.underlying e with
    | none => rw [he] at h; cases h
    | some u =>
      cases hx2 with
      | string s =>
        simp only
        refine (SS.underlying H e).bind fun ρ3 u u' le3 ⟨e, hu⟩ => ?_
        subst e
        rw [hu] at h
        cases u with
        | int k => cases k <;> first | (exact Bool.noConfusion h) | exact SS.stringToBytes _ _
        | _ => exact Bool.noConfusion h
      | _ => exact SS.halt
  · rename_i e _ _
    simp only at h
    have tail : ∀ {y y' : Value}, VR X.F ρ2 y y' → SS X ρ2 (do
        match ← Go.underlying e with
        | .int .u8 => Conv.bytesToString y
        | .int .i32 => Conv.runesToString y
        | _ => stuck "Convert: a slice of what to string?") (do
        match ← Go.underlying e with
        | .int .u8 => Conv.bytesToString y'
        | .int .i32 => Conv.runesToString y'
        | _ => stuck "Convert: a slice of what to string?") (fun ρ1 v v' => VR X.F ρ1 v v') := by
      intro y y' hy
      refine (SS.underlying H e).bind fun ρ3 u u' le3 ⟨e, hu⟩ => ?_
      subst e
      rw [hu] at h
      cases u with
      | int k => cases k <;> first | (exact Bool.noConfusion h) | exact SS.bytesToString (hy.mono le3)
      | _ => exact Bool.noConfusion h
    cases hx2 with
    | int k n => exact SS.pure (.string _)
    | string s => exact SS.pure (.string _)
    | bool b => exact tail (.bool b)
    | ptrNil => exact tail .ptrNil
    | ptr r => exact tail (.ptr r)
    | sliceNil n c => exact tail (.sliceNil n c)
    | slice r => exact tail (.slice r)
    | mapNil => exact tail .mapNil
    | map r => exact tail (.map r)
    | func a b => exact tail (.func a b)
    | yield r => exact tail (.yield r)
    | nilFunc => exact tail .nilFunc
    | agg r => exact tail (.agg r)
    | tuple r => exact tail (.tuple r)

/-! ### slices that are made, that grow -/
theorem VsR.getBang {F : FuncId → Prop} {c c' : Array Value} (h : VsR F ρ c.toList c'.toList) (i : Nat) : VR F ρ c[i]! c'[i]! := by
  rw [getElem!_def, getElem!_def]
  rcases h.toA (i := i) with ⟨h1, h2⟩ | ⟨v, v', h1, h2, h3⟩
  · rw [h1, h2]; exact .bool _
  · rw [h1, h2]; exact h3
theorem zeroCells_R {F : FuncId → Prop} {z z' : Array Value} (h : VsR F ρ z.toList z'.toList) (n : Nat) : VsR F ρ (Builtin.zeroCells z n).toList (Builtin.zeroCells z' n).toList := by
  unfold Builtin.zeroCells
  rw [show z'.size = z.size from h.size.symm]
  exact VsR.amap _ _ _ fun i => h.getBang _
theorem SS.buildSlice (H : X.Ok Fb) (t elem : TypeId) (ht : X.P.underlying t = some (.slice elem)) (hz : zeroOk X.P Fb elem = true) (len : Nat) {ps ps' : Array (Nat × Value)} (h : PsR X.F ρ ps.toList ps'.toList) :
    SS X ρ (Instr.buildSlice t len ps) (Instr.buildSlice t len ps') (fun ρ1 v v' => VR X.F ρ1 v v') := by
  unfold Instr.buildSlice
  refine (SS.underlying H t).bind fun ρ1 d d' le ⟨e, hd⟩ => ?_
  subst e
  rw [ht] at hd; cases hd
  simp only
  refine (SS.sizeOf H _).bind fun ρ2 q q' le2 ⟨e, _⟩ => ?_
  subst e
  refine SS.ite (fun _ => SS.dies (Dies.bindL (Dies.unsupported _))) (fun _ => ?_)
  have tail : ∀ (ρ3 : Rel) (z z' : Array Value), ρ2.le ρ3 → VsR X.F ρ3 z.toList z'.toList → SS X ρ3 (do
      let some cells := Instr.fill (fun i => some (i * q, q)) ((Array.range (len * q)).map (z[· % z.size]!)) ps.toList
        | stuck "buildSlice: a part of the wrong size"
      Pure.pure (Value.slice (some (← Go.newRow elem cells)) len len)) (do
      let some cells := Instr.fill (fun i => some (i * q, q)) ((Array.range (len * q)).map (z'[· % z'.size]!)) ps'.toList
        | stuck "buildSlice: a part of the wrong size"
      Pure.pure (Value.slice (some (← Go.newRow elem cells)) len len)) (fun ρ1 v v' => VR X.F ρ1 v v') := by
    intro ρ3 z z' le3 hz
    have hc : VsR X.F ρ3 ((Array.range (len * q)).map (z[· % z.size]!)).toList ((Array.range (len * q)).map (z'[· % z'.size]!)).toList := by
      rw [show z'.size = z.size from hz.size.symm]
      exact VsR.amap _ _ _ fun i => hz.getBang _
    rcases fill_R (F := X.F) (ρ := ρ3) (fun i => some (i * q, q)) (h.mono (Rel.le_trans le (Rel.le_trans le2 le3))) hc with ⟨h1, h2⟩ | ⟨c, c', h1, h2, h3⟩
    · rw [h1, h2]; exact SS.halt
    · rw [h1, h2]
      exact (SS.newRow elem h3).bind fun _ a a' _ ha => SS.pure (ha.slice _ _)
  refine SS.ite (fun _ => tail ρ2 #[] #[] ρ2.le_refl .nil) (fun _ => ?_)
  exact (SS.zeroValue H elem hz).bind fun ρ3 z z' le3 hzz => tail ρ3 _ _ le3 hzz.cells

theorem SS.firstCells (size n : Nat) {x x' : Value} (h : VR X.F ρ x x') : SS X ρ (Builtin.firstCells size n x) (Builtin.firstCells size n x') (fun ρ1 c c' => VsR X.F ρ1 c.toList c'.toList) := by
  unfold Builtin.firstCells
  cases h with
  | slice r => exact SS.loadCells (AR.of r) _
  | sliceNil a b => exact SS.pure .nil
  | string s => exact SS.pure (VsR.amap _ _ _ fun _ => .int _ _)
  | _ => exact SS.halt
theorem SS.askRoom (n : Nat) : SS X ρ (askRoom n) (askRoom n) (fun _ _ _ => True) := by
  unfold Go.askRoom
  exact SS.ite (fun _ => SS.markRoom) (fun _ => SS.pure trivial)
theorem tame_holdsCells (a : Addr) (n : Nat) : Tame (Builtin.holdsCells a n) := by
  unfold Builtin.holdsCells
  refine (Tame.shape _).bind fun s => ?_
  cases s <;> exact Tame.pure _
theorem tame_mayShare (size sLen n : Nat) (base : Option Addr) (x : Value) : Tame (Builtin.mayShare size sLen n base x) := by
  unfold Builtin.mayShare
  have tail : ∀ t : Bool, Tame (do
      if !t then return true
      match x with
      | .slice (some b) _ _ => do Pure.pure (!(← Builtin.holdsCells b (n * size)) || base.any (·.block == b.block))
      | _ => Pure.pure false : Sem Bool) := by
    intro t
    split
    · exact Tame.pure _
    · split
      · exact (tame_holdsCells _ _).bind fun _ => Tame.pure _
      · exact Tame.pure _
  cases base with
  | none => exact tail true
  | some a =>
    refine (tame_holdsCells _ _).bind fun b => ?_
    exact (Tame.frozen _).bind fun _ => tail _
def appendOk (P : Program) (Fb : FuncId → Bool) (ats : Array TypeId) : Bool :=
  match ats[0]?, ats[1]? with
  | some s, some x => match P.underlying s, P.underlying x with
    | some (.slice e), some d => zeroOk P Fb e && !(match d with | .int _ => true | _ => false)
    | _, _ => false
  | _, _ => false
theorem SS.append (H : X.Ok Fb) (ats : Array TypeId) (t : TypeId) (h : appendOk X.P Fb ats = true) {ars ars' : Array Value} (ha : VsR X.F ρ ars.toList ars'.toList) :
    SS X ρ (Builtin.append_ ats t ars) (Builtin.append_ ats t ars') (fun ρ1 v v' => VR X.F ρ1 v v') := by
  unfold appendOk at h
  unfold Builtin.append_
  cases h0 : ats[0]? with
  | none => rw [h0] at h; cases h
  | some sT =>
  cases h1 : ats[1]? with
  | none => rw [h0, h1] at h; cases h
  | some xT =>
  rw [h0, h1] at h
  simp only at h
  rcases ha.toA (i := 0) with ⟨a1, a2⟩ | ⟨s, s', a1, a2, hs⟩
  · rw [a1, a2]; exact SS.halt
  rcases ha.toA (i := 1) with ⟨b1, b2⟩ | ⟨x, x', b1, b2, hx⟩
  · rw [a1, a2, b1, b2]; exact SS.halt
  rw [a1, a2, b1, b2]
  simp only
  refine (SS.underlying H sT).bind fun ρ1 d d' le ⟨e, hd⟩ => ?_
  subst e
  rw [hd] at h
  cases d <;> first | (exact Bool.noConfusion h) | skip
  rename_i elem _
  simp only at h ⊢
  have nz : ∀ ρ2, SS X ρ2 (Go.underlying xT) (Go.underlying xT) (fun _ d d' => d = d' ∧ (match d with | .int _ => true | _ => false) = false) := fun ρ2 =>
    (SS.underlying H xT).mono fun _ d d' _ ⟨e, hd⟩ => ⟨e, by
      rw [hd] at h
      simp only [Bool.and_eq_true, Bool.not_eq_true'] at h
      exact h.2⟩
  have hz : zeroOk X.P Fb elem = true := by
    cases hu : X.P.underlying xT with
    | none => rw [hu] at h; cases h
    | some d => rw [hu] at h; simp only [Bool.and_eq_true] at h; exact h.1
  -- what follows once the slice is known to be one
  have core : ∀ (base base' : Option Addr) (sLen sCap : Nat), ((base = none ∧ base' = none) ∨ ∃ a a', base = some a ∧ base' = some a' ∧ AR ρ1 a a') → VR X.F ρ1 (.slice base sLen sCap) (.slice base' sLen sCap) → ∀ (ρ2 : Rel) (size n : Nat), ρ1.le ρ2 → SS X ρ2
      (do
        if sLen + n ≤ sCap then
          let new ← Builtin.firstCells size n x
          if let some a := base then Go.storeCells (a.add (sLen * size)) new.toList
          Pure.pure (Value.slice base (sLen + n) sCap)
        else
          if ((sLen + n : Nat) : Int) > IntKind.i64.max ∧ (false = true ∨ (← Go.typeInfo elem).bytes = 0) then runtimePanic (.error "growslice: len out of range")
          if Builtin.nextslicecap (sLen + n) sCap * (← Go.typeInfo elem).bytes > 2 ^ 48 then (do
            if !(← Builtin.mayShare size sLen n base x) then mark .noRoom
            unsupported (.resourceLimit "append: a slice or a string whose bytes no memory bears"))
          let newCap ← Go.choose (.appendCap (sLen + n) sCap elem)
          Go.askRoom (newCap * (← Go.typeInfo elem).bytes)
          let old ← Builtin.firstCells size sLen (.slice base sLen sCap)
          let new ← Builtin.firstCells size n x
          let rest := Builtin.zeroCells (← Go.zeroValue elem).cells (newCap - (sLen + n))
          Pure.pure (.slice (some (← Go.newRow elem (old ++ new ++ rest))) (sLen + n) newCap))
      (do
        if sLen + n ≤ sCap then
          let new ← Builtin.firstCells size n x'
          if let some a := base' then Go.storeCells (a.add (sLen * size)) new.toList
          Pure.pure (Value.slice base' (sLen + n) sCap)
        else
          if ((sLen + n : Nat) : Int) > IntKind.i64.max ∧ (false = true ∨ (← Go.typeInfo elem).bytes = 0) then runtimePanic (.error "growslice: len out of range")
          if Builtin.nextslicecap (sLen + n) sCap * (← Go.typeInfo elem).bytes > 2 ^ 48 then (do
            if !(← Builtin.mayShare size sLen n base' x') then mark .noRoom
            unsupported (.resourceLimit "append: a slice or a string whose bytes no memory bears"))
          let newCap ← Go.choose (.appendCap (sLen + n) sCap elem)
          Go.askRoom (newCap * (← Go.typeInfo elem).bytes)
          let old ← Builtin.firstCells size sLen (.slice base' sLen sCap)
          let new ← Builtin.firstCells size n x'
          let rest := Builtin.zeroCells (← Go.zeroValue elem).cells (newCap - (sLen + n))
          Pure.pure (.slice (some (← Go.newRow elem (old ++ new ++ rest))) (sLen + n) newCap)) (fun ρ1 v v' => VR X.F ρ1 v v') := by
    intro base base' sLen sCap hb hsl ρ2 size n le2
    have hx2 := (hx.mono le).mono le2
    refine SS.ite (fun _ => ?_) (fun _ => ?_)
    · refine (SS.firstCells size n hx2).bind fun ρ3 c c' le3 hc => ?_
      rcases hb with ⟨rfl, rfl⟩ | ⟨a, a', rfl, rfl, ha⟩
      · exact SS.pure (.sliceNil _ _)
      · simp only
        refine (SS.storeCells (((ha.mono le2).mono le3).add _) 0 hc).bind fun ρ4 _ _ le4 _ => ?_
        exact SS.pure ((((ha.mono le2).mono le3).mono le4).slice _ _)
    · refine (SS.typeInfo H elem).bind fun ρ3 i i' le3 ⟨e, _⟩ => ?_
      subst e
      refine SS.ite (fun _ => SS.dies (Dies.bindL (Dies.runtimePanic _))) (fun _ => ?_)
      refine (SS.typeInfo H elem).bind fun ρ4 i i' le4 ⟨e, _⟩ => ?_
      subst e
      refine SS.ite (fun _ => SS.dies (Dies.bindL (Dies.bind (tame_mayShare _ _ _ _ _) fun _ => ?_))) (fun _ => ?_)
      · dsimp only
        split <;> first | exact Dies.bind (Tame.mark _) fun _ => Dies.unsupported _ | exact Dies.unsupported _
      refine (SS.choose _).bind fun ρ5 m m' le5 e => ?_
      subst e
      refine (SS.typeInfo H elem).bind fun ρ6 i i' le6 ⟨e, _⟩ => ?_
      subst e
      refine (SS.askRoom _).bind fun ρ7 _ _ le7 _ => ?_
      have le27 : ρ2.le ρ7 := Rel.le_trans le3 (Rel.le_trans le4 (Rel.le_trans le5 (Rel.le_trans le6 le7)))
      refine (SS.firstCells size sLen ((hsl.mono le2).mono le27)).bind fun ρ8 c c' le8 hc => ?_
      refine (SS.firstCells size n ((hx2.mono le27).mono le8)).bind fun ρ9 d d' le9 hd => ?_
      refine (SS.zeroValue H elem hz).bind fun ρ10 z z' le10 hzz => ?_
      refine (SS.newRow elem ?_).bind fun _ a a' _ ha => SS.pure (ha.slice _ _)
      exact (((hc.mono le9).mono le10).aappend (hd.mono le10)).aappend (zeroCells_R hzz.cells _)
  have hs1 := hs.mono le
  have lenR : ∀ {ρ2 : Rel}, ρ.le ρ2 → SS X ρ2 (Builtin.lenOf x) (Builtin.lenOf x') (fun _ n n' => n = n') := by
    intro ρ2 le2
    have := hx.mono le2
    cases this <;> first | exact SS.pure rfl | exact SS.halt
  cases hs1 with
  | sliceNil n c =>
    simp only
    refine (SS.sizeOf H elem).bind fun ρ2 q q' le2 ⟨e, _⟩ => ?_
    subst e
    refine (nz ρ2).bind fun ρ3 d d' le3 ⟨e, hdn⟩ => ?_
    subst e
    refine SS.bind (Q := fun _ (z z' : Bool) => z = false ∧ z' = false) (SS.pure ⟨by revert hdn; cases d <;> simp, by revert hdn; cases d <;> simp⟩) fun ρ4 z z' le4 ⟨e, e'⟩ => ?_
    subst e; subst e'
    refine SS.ite (fun h => by cases h) (fun _ => ?_)
    refine (lenR (Rel.le_trans le (Rel.le_trans le2 (Rel.le_trans le3 le4)))).bind fun ρ5 m m' le5 e => ?_
    subst e
    exact core none none n c (.inl ⟨rfl, rfl⟩) (.sliceNil _ _) ρ5 q m (Rel.le_trans le2 (Rel.le_trans le3 (Rel.le_trans le4 le5)))
  | @slice b b' o s n c r =>
    simp only
    refine (SS.sizeOf H elem).bind fun ρ2 q q' le2 ⟨e, _⟩ => ?_
    subst e
    refine (nz ρ2).bind fun ρ3 d d' le3 ⟨e, hdn⟩ => ?_
    subst e
    refine SS.bind (Q := fun _ (z z' : Bool) => z = false ∧ z' = false) (SS.pure ⟨by revert hdn; cases d <;> simp, by revert hdn; cases d <;> simp⟩) fun ρ4 z z' le4 ⟨e, e'⟩ => ?_
    subst e; subst e'
    refine SS.ite (fun h => by cases h) (fun _ => ?_)
    refine (lenR (Rel.le_trans le (Rel.le_trans le2 (Rel.le_trans le3 le4)))).bind fun ρ5 m m' le5 e => ?_
    subst e
    exact core (some ⟨b, o, s⟩) (some ⟨b', o, s⟩) n c (.inr ⟨_, _, rfl, rfl, AR.of r⟩) (.slice r) ρ5 q m (Rel.le_trans le2 (Rel.le_trans le3 (Rel.le_trans le4 le5)))
  | _ => exact SS.halt

/-! ### the builtins, calls -/
theorem SS.len (H : X.Ok Fb) (ats : Array TypeId) (t : TypeId) {ars ars' : Array Value} (ha : VsR X.F ρ ars.toList ars'.toList) : SS X ρ (Builtin.len_ ats t ars) (Builtin.len_ ats t ars') (fun ρ1 v v' => VR X.F ρ1 v v') := by
  unfold Builtin.len_
  cases h0 : ats[0]? with
  | none =>
    rcases ha.toA (i := 0) with ⟨a1, a2⟩ | ⟨s, s', a1, a2, hs⟩ <;> (rw [a1, a2]; exact SS.halt)
  | some sT =>
  rcases ha.toA (i := 0) with ⟨a1, a2⟩ | ⟨s, s', a1, a2, hs⟩
  · rw [a1, a2]; exact SS.halt
  rw [a1, a2]
  simp only
  refine (SS.underlying H sT).bind fun ρ1 d d' le ⟨e, hd⟩ => ?_
  subst e
  have ptr : ∀ arr : TypeId, SS X ρ1 (do
      let .array n _ ← Go.underlying arr | stuck "len: pointer to array expected"
      Pure.pure (goInt n)) (do
      let .array n _ ← Go.underlying arr | stuck "len: pointer to array expected"
      Pure.pure (goInt n)) (fun ρ1 v v' => VR X.F ρ1 v v') := fun arr => by
    refine (SS.underlying H arr).bind fun ρ2 d d' le2 ⟨e, hd⟩ => ?_
    subst e
    cases d <;> first | exact SS.pure (.int _ _) | exact SS.halt
  have hs1 := hs.mono le
  cases d with
  | map k el =>
    cases hs1 with
    | mapNil => exact SS.pure (.int _ _)
    | map r =>
      simp only
      refine (SS.getObj r).bind fun ρ2 o o' le2 ⟨ho, _⟩ => ?_
      cases ho with
      | @map es es' clock hes =>
        have : es'.size = es.size := by simpa using hes.length.symm
        simp only [this]
        exact SS.pure (.int _ _)
      | _ => exact SS.halt
    | _ => exact SS.halt
  | pointer arr => cases hs1 <;> exact ptr arr
  | array n el => cases hs1 <;> exact SS.pure (.int _ _)
  | string => cases hs1 <;> first | exact SS.pure (.int _ _) | exact SS.halt
  | slice el => cases hs1 <;> first | exact SS.pure (.int _ _) | exact SS.halt
  | _ => cases hs1 <;> exact SS.halt
theorem SS.min2 {x x' y y' : Value} (hx : VR X.F ρ x x') (hy : VR X.F ρ y y') : SS X ρ (Builtin.min2 x y) (Builtin.min2 x' y') (fun ρ1 v v' => VR X.F ρ1 v v') := by
  unfold Builtin.min2
  cases hx with
  | int k n => cases hy <;> first | exact SS.pure (.int _ _) | exact SS.halt
  | string s =>
    cases hy with
    | string s2 =>
      simp only
      refine (SS.stringOp _ _ _).bind fun ρ2 v v' le2 hv => ?_
      refine (SS.asBool hv).bind fun ρ3 b b' _ e => ?_
      subst e
      refine SS.pure ?_
      split <;> exact .string _
    | _ => exact SS.halt
  | _ => cases hy <;> exact SS.halt
theorem SS.min (ats : Array TypeId) (t : TypeId) {ars ars' : Array Value} (ha : VsR X.F ρ ars.toList ars'.toList) : SS X ρ (Builtin.min_ ats t ars) (Builtin.min_ ats t ars') (fun ρ1 v v' => VR X.F ρ1 v v') := by
  unfold Builtin.min_
  generalize ars.toList = l at ha
  generalize ars'.toList = l' at ha
  cases ha with
  | nil => exact SS.halt
  | cons a b =>
    rename_i v v' l l'
    simp only
    clear ars ars'
    induction l generalizing l' v v' ρ with
    | nil => cases b; exact SS.pure a
    | cons x l ih =>
      cases b with
      | cons c d =>
        rw [List.foldlM_cons, List.foldlM_cons]
        exact (SS.min2 a c).bind fun ρ1 z z' le hz => ih hz (d.mono le)

inductive NR (X : Cx) (ρ : Rel) : Next → Next → Prop
  | value {v v' : Value} : VR X.F ρ v v' → NR X ρ (.value v) (.value v')
  | skip : NR X ρ .skip .skip
  | enter {f : FuncId} {ars ars' : Array Value} : X.F f → VsR X.F ρ ars.toList ars'.toList → NR X ρ (.enter f ars) (.enter f ars')
  | round {l l' : Nat} {f : FuncId} {ts ts' : Array Value} {a b : Code} : ρ l l' → VsR X.F ρ ts.toList ts'.toList → X.C a → X.C b → X.G f → NR X ρ (.round l f ts a b) (.round l' f ts' a b)

theorem SS.callFunc (H : X.Ok Fb) (f : FuncId) (hf : X.F f) {ars ars' : Array Value} (ha : VsR X.F ρ ars.toList ars'.toList) : SS X ρ (callFunc f ars) (callFunc f ars') (fun ρ1 n n' => NR X ρ1 n n') := by
  obtain ⟨fn, fn', h1, h2, h3, h4, h5, h6⟩ := H.calls f hf
  unfold Go.callFunc
  refine SS.program ?_
  rw [h1, h2]
  simp only [h3, h4, h5, h6, Bool.false_eq_true, if_false]
  exact SS.pure (.enter hf ha)
theorem SS.yieldCall {l l' : Nat} (h : ρ l l') {ars ars' : Array Value} (ha : VsR X.F ρ ars.toList ars'.toList) : SS X ρ (Instr.yield l ars) (Instr.yield l' ars') (fun ρ1 n n' => NR X ρ1 n n') := by
  unfold Instr.yield Instr.getLoop
  simp only [bind_assoc]
  refine (SS.getObj h).bind fun ρ1 o o' le ⟨ho, _⟩ => ?_
  cases ho with
  | loop ht hd hp h1 h2 hG =>
    rename_i s pend fn tmps tmps' params assign body d d'
    simp only [pure_bind]
    rw [show ars'.size = ars.size from ha.size.symm]
    refine SS.ite (fun _ => SS.dies (Dies.bindL (Dies.stuck _))) (fun _ => ?_)
    refine SS.pure (.round (le _ _ h) ?_ h1 h2 hG)
    rw [← Array.foldl_toList, ← Array.foldl_toList, Array.toList_zip, Array.toList_zip]
    have key : ∀ (ps : List Tmp) (vs vs' : List Value) (ts ts' : Array Value), VsR X.F ρ1 vs vs' → VsR X.F ρ1 ts.toList ts'.toList →
        VsR X.F ρ1 ((ps.zip vs).foldl (fun tmps (p : Tmp × Value) => tmps.setIfInBounds p.1 p.2) ts).toList ((ps.zip vs').foldl (fun tmps (p : Tmp × Value) => tmps.setIfInBounds p.1 p.2) ts').toList := by
      intro ps
      induction ps with
      | nil => intro vs vs' ts ts' _ ht; exact ht
      | cons p ps ih =>
        intro vs vs' ts ts' hv ht
        cases hv with
        | nil => exact ht
        | cons a b => exact ih _ _ _ _ b (ht.aset _ a)
    exact key _ _ _ _ _ (ha.mono le) ht
  | _ => exact SS.halt
end

end Go.Proofs.YtkpekiajdlolnabGreat.Sim

/-
  THE SIMULATION, eighth text: ONE OPERATION; which operations are served.
-/
namespace Go.Proofs.YtkpekiajdlolnabGreat.Sim
open Go

def okOperand (Fb : FuncId → Bool) : Operand → Bool
  | .tmp _ => true
  | .const v => flat Fb v
  | .global _ => false
  | .func f => Fb f
/-- Which operations are served. 'wr': may maps be written? -/
def okOp (P P' : Program) (Fb : FuncId → Bool) (wr : Bool) (o : Oper) : Bool :=
  o.op.operands.toList.all (okOperand Fb) &&
  match o.op with
  | .move _ | .assign _ | .pick .. | .load .. | .store .. | .nilCheck _ | .unOp .. | .slice _ _ _ _ none | .field .. | .indexAddr .. | .index .. | .range .. | .next .. | .entry .. | .extract .. | .box .. | .makeMap _ none => true
  | .alloc t | .build t _ => zeroOk P Fb t
  | .buildSlice t _ _ => match P.underlying t with
    | some (.slice e) => zeroOk P Fb e
    | _ => false
  | .binOp op t x y _ => !isEq op || eqOk P P' t x y
  | .convert s d _ => convOk P s d
  | .makeFunc (.func f) first _ => Fb f && first.isEmpty
  | .fieldAddr s _ f => match P.underlying s with
    | some (.struct fs) => match fs[f]? with
      | some fd => P.cellsOf fd.type != 0
      | none => false
    | _ => false
  | .lookup xt _ _ _ => match P.underlying xt with
    | some (.map k e) => eqTy P P' 8 k && zeroOk P Fb e
    | _ => false
  | .mapUpdate t _ _ _ | .insert t _ _ _ => wr && match P.underlying t with
    | some (.map k _) => eqTy P P' 8 k
    | _ => false
  | .call c => match c.callee with
    | .value _ => true
    | .builtin .len | .builtin .min => true
    | .builtin .append => appendOk P Fb c.argTypes
    | .builtin .delete => wr && match c.argTypes[0]? with
      | some t => match P.underlying t with
        | some (.map k _) => eqTy P P' 8 k
        | _ => false
      | none => false
    | _ => false
  | _ => false

section
variable {X : Cx} {Fb : FuncId → Bool} {ρ : Rel} {α β : Type}

theorem SS.val {s s' : Sem Value} (h : SS X ρ s s' (fun ρ1 v v' => VR X.F ρ1 v v')) : SS X ρ (do Pure.pure (Next.value (← s))) (do Pure.pure (Next.value (← s'))) (fun ρ1 n n' => NR X ρ1 n n') :=
  h.bind fun _ v v' _ hv => SS.pure (.value hv)
theorem SS.unit {s s' : Sem Unit} (h : SS X ρ s s' (fun _ _ _ => True)) : SS X ρ (do s; Pure.pure Next.skip) (do s'; Pure.pure Next.skip) (fun ρ1 n n' => NR X ρ1 n n') :=
  h.bind fun _ v v' _ _ => SS.pure .skip
/-- The guard of an equality lets it by. -/
theorem SS.eqGuard (op : BinOp) (t : TypeId) (x y : Operand) (h : isEq op = true → eqOk X.P X.P' t x y = true) (e e' : Operand → Value) (hx : VR X.F ρ (e x) (e' x)) (hy : VR X.F ρ (e y) (e' y)) (hc : ∀ v, e (.const v) = v) :
    SS X ρ (Go.eqGuard op t x y (e x) (e y)) (Go.eqGuard op t x y (e' x) (e' y)) (fun _ _ _ => True) := by
  have main : isEq op = true → SS X ρ (match e x, e y with
      | .nilIface, .nilIface => do
        if (x matches .const _) || (y matches .const _) then return
        if ← Op.eqGuardIn Op.maxDepth t (e x) (e y) then unsupported (.noEntry "binop/eql: two nil values of an interface type with methods, neither of them the literal nil")
      | .agg _, .agg _ => do
        if !(← Go.program).eqGuardType (← Go.program).depth t then return
        if ← Op.eqGuardIn Op.maxDepth t (e x) (e y) then unsupported (.noEntry "binop/eql: two nil values of an interface type with methods, in a part of a struct or an array")
      | _, _ => Pure.pure ()) (match e' x, e' y with
      | .nilIface, .nilIface => do
        if (x matches .const _) || (y matches .const _) then return
        if ← Op.eqGuardIn Op.maxDepth t (e' x) (e' y) then unsupported (.noEntry "binop/eql: two nil values of an interface type with methods, neither of them the literal nil")
      | .agg _, .agg _ => do
        if !(← Go.program).eqGuardType (← Go.program).depth t then return
        if ← Op.eqGuardIn Op.maxDepth t (e' x) (e' y) then unsupported (.noEntry "binop/eql: two nil values of an interface type with methods, in a part of a struct or an array")
      | _, _ => Pure.pure ()) (fun _ (_ : Unit) (_ : Unit) => True) := by
    intro ho
    have h := h ho
    unfold eqOk at h
    rw [Bool.or_eq_true] at h
    have key : (∃ c, e x = .agg c) → (∃ c, e y = .agg c) → X.P.eqGuardType X.P.depth t = false ∧ X.P'.eqGuardType X.P'.depth t = false := by
      intro h1 h2
      rcases h with h | h
      · simp only [Bool.and_eq_true, Bool.not_eq_true'] at h
        exact ⟨h.1.2, h.2⟩
      · exfalso
        simp only [Bool.and_eq_true] at h
        obtain ⟨_, h⟩ := h
        obtain ⟨c, h1⟩ := h1
        obtain ⟨d, h2⟩ := h2
        split at h
        · rw [hc] at h1; cases h1
        · rw [hc] at h2; cases h2
        · cases h
    generalize e x = vx at hx key
    generalize e y = vy at hy key
    generalize e' x = vx' at hx
    generalize e' y = vy' at hy
    cases hx with
    | agg hxs =>
      cases hy with
      | agg hys =>
        obtain ⟨k1, k2⟩ := key ⟨_, rfl⟩ ⟨_, rfl⟩
        simp only
        refine SS.program ?_
        refine SS.program ?_
        simp only [k1, k2, Bool.not_false, if_true]
        exact SS.pure trivial
      | _ => exact SS.pure trivial
    | _ => exact SS.pure trivial
  unfold Go.eqGuard
  cases op <;> first | exact SS.pure trivial | exact main rfl

/-- The operands' values correspond. -/
def EvR (F : FuncId → Prop) (Fb : FuncId → Bool) (ρ : Rel) (e e' : Operand → Value) : Prop := (∀ x, okOperand Fb x = true → VR F ρ (e x) (e' x)) ∧ (∀ v, e (.const v) = v)

theorem all_args {Fb : FuncId → Bool} {F : FuncId → Prop} {e e' : Operand → Value} : ∀ {l : List Operand}, (∀ x ∈ l, VR F ρ (e x) (e' x)) → VsR F ρ (l.map e) (l.map e')
  | [], _ => .nil
  | x :: l, h => .cons (h x (by simp)) (all_args (Fb := Fb) fun y hy => h y (by simp [hy]))
theorem all_parts {F : FuncId → Prop} {e e' : Operand → Value} : ∀ {l : List (Nat × Operand)}, (∀ x ∈ l, VR F ρ (e x.2) (e' x.2)) → PsR F ρ (l.map fun (i, x) => (i, e x)) (l.map fun (i, x) => (i, e' x))
  | [], _ => .nil
  | (i, x) :: l, h => .cons (h (i, x) (by simp)) (all_parts fun y hy => h y (by simp [hy]))

theorem SS.call (H : X.Ok Fb) (wr : Bool) (hw : wr = true → ∀ b, ¬ X.Sh b) (c : Call) (t : TypeId) (e e' : Operand → Value)
    (hops : ∀ x ∈ c.operands.toList, VR X.F ρ (e x) (e' x))
    (h : (match c.callee with
    | .value _ => true
    | .builtin .len | .builtin .min => true
    | .builtin .append => appendOk X.P Fb c.argTypes
    | .builtin .delete => wr && match c.argTypes[0]? with
      | some t => match X.P.underlying t with
        | some (.map k _) => eqTy X.P X.P' 8 k
        | _ => false
      | none => false
    | _ => false) = true) :
    SS X ρ (do let d ← resolve e c t; invoke d.target d.args) (do let d ← resolve e' c t; invoke d.target d.args) (fun ρ1 n n' => NR X ρ1 n n') := by
  obtain ⟨callee, args, argTypes⟩ := c
  simp only [Call.operands] at hops
  have hargs : VsR X.F ρ (args.map e).toList (args.map e').toList := by
    rw [Array.toList_map, Array.toList_map]
    exact all_args (Fb := Fb) fun x hx => hops x (by simp; exact .inr (by simpa using hx))
  unfold resolve
  simp only at h ⊢
  cases callee with
  | invoke r n => cases h
  | value f =>
    simp only
    have hf : VR X.F ρ (e f) (e' f) := hops f (by simp)
    generalize e f = vf at hf
    generalize e' f = vf' at hf
    cases hf with
    | func hF hcs =>
      simp only [Deferred.ofValue]
      refine SS.bind (Q := fun ρ1 d d' => ∃ g cs cs' ars ars', d = ⟨.fn (.func g) cs, ars⟩ ∧ d' = ⟨.fn (.func g) cs', ars'⟩ ∧ X.F g ∧ VsR X.F ρ1 cs.toList cs'.toList ∧ VsR X.F ρ1 ars.toList ars'.toList) (SS.pure ⟨_, _, _, _, _, rfl, rfl, hF, hcs, by simpa using hargs⟩) fun ρ1 d d' le hd => ?_
      obtain ⟨g, cs, cs', ars, ars', rfl, rfl, h1, h2, h3⟩ := hd
      exact SS.callFunc H g h1 (h3.aappend h2)
    | yield r =>
      simp only [Deferred.ofValue]
      refine SS.bind (Q := fun ρ1 d d' => ∃ l l' cs cs' ars ars', d = ⟨.fn (.yield l) cs, ars⟩ ∧ d' = ⟨.fn (.yield l') cs', ars'⟩ ∧ ρ1 l l' ∧ VsR X.F ρ1 ars.toList ars'.toList) (SS.pure ⟨_, _, _, _, _, _, rfl, rfl, r, by simpa using hargs⟩) fun ρ1 d d' le hd => ?_
      obtain ⟨l, l', cs, cs', ars, ars', rfl, rfl, h1, h3⟩ := hd
      exact SS.yieldCall h1 h3
    | nilFunc =>
      exact SS.dies (Dies.runtimePanic (α := Next) .nilDeref)
    | _ => exact SS.dies (Dies.bindL (Dies.stuck _))
  | builtin b =>
    cases b <;> first | (exact Bool.noConfusion h) | skip
    · exact SS.val (SS.append H argTypes t h hargs)
    · simp only [Bool.and_eq_true] at h
      obtain ⟨h1, h2⟩ := h
      cases h0 : argTypes[0]? with
      | none => rw [h0] at h2; cases h2
      | some xt =>
        rw [h0] at h2
        simp only at h2
        cases hu : X.P.underlying xt with
        | none => rw [hu] at h2; cases h2
        | some d =>
          rw [hu] at h2
          cases d <;> first | (exact Bool.noConfusion h2) | exact SS.val (SS.delete H (hw h1) argTypes t xt _ _ h0 hu h2 hargs)
    · exact SS.val (SS.len H argTypes t hargs)
    · exact SS.val (SS.min argTypes t hargs)

theorem SS.execOp (H : X.Ok Fb) (wr : Bool) (hw : wr = true → ∀ b, ¬ X.Sh b) (o : Oper) (h : okOp X.P X.P' Fb wr o = true) (e e' : Operand → Value) (he : EvR X.F Fb ρ e e') :
    SS X ρ (Go.execOp e o) (Go.execOp e' o) (fun ρ1 n n' => NR X ρ1 n n') := by
  unfold okOp at h
  simp only [Bool.and_eq_true, List.all_eq_true] at h
  obtain ⟨hops, h⟩ := h
  have hv : ∀ x ∈ o.op.operands.toList, VR X.F ρ (e x) (e' x) := fun x hx => he.1 x (hops x hx)
  unfold Go.execOp
  cases hop : o.op with
  | move x => rw [hop] at hv; exact SS.pure (.value (hv x (by simp [Op.operands])))
  | assign x => rw [hop] at hv; exact SS.pure (.value (hv x (by simp [Op.operands])))
  | pick c a b =>
    rw [hop] at hv
    refine SS.bind (SS.asBool (hv c (by simp [Op.operands]))) fun ρ1 z z' le ez => ?_
    subst ez
    refine SS.pure (.value ?_)
    cases z
    · exact (hv b (by simp [Op.operands])).mono le
    · exact (hv a (by simp [Op.operands])).mono le
  | alloc t => rw [hop] at h; exact SS.val (SS.alloc H t h)
  | box t x => rw [hop] at hv; exact SS.val (SS.box t (hv x (by simp [Op.operands])))
  | build t ps =>
    rw [hop] at h hv
    refine SS.val (SS.build H t h ?_)
    rw [Array.toList_map, Array.toList_map]
    exact all_parts fun x hx => hv x.2 (by simp [Op.operands]; exact ⟨x.1, by simpa using hx⟩)
  | buildSlice t len ps =>
    rw [hop] at h hv
    simp only at h
    cases hu : X.P.underlying t with
    | none => rw [hu] at h; cases h
    | some d =>
      rw [hu] at h
      cases d <;> first | (exact Bool.noConfusion h) | skip
      refine SS.val (SS.buildSlice H t _ hu h len ?_)
      rw [Array.toList_map, Array.toList_map]
      exact all_parts fun x hx => hv x.2 (by simp [Op.operands]; exact ⟨x.1, by simpa using hx⟩)
  | load t a =>
    rw [hop] at hv
    refine SS.val ?_
    unfold Instr.loadAt
    exact (SS.sureAddr (hv a (by simp [Op.operands]))).bind fun _ a a' _ ha => SS.loadVar H t ha
  | store t a x =>
    rw [hop] at hv
    refine SS.unit ?_
    unfold Instr.storeAt
    exact (SS.sureAddr (hv a (by simp [Op.operands]))).bind fun _ a a' le ha => SS.storeVar H t ha ((hv x (by simp [Op.operands])).mono le)
  | nilCheck x =>
    rw [hop] at hv
    have hx := hv x (by simp [Op.operands])
    simp only
    generalize e x = vx at hx
    generalize e' x = vx' at hx
    cases hx with
    | ptrNil => exact SS.dies (Dies.runtimePanic _)
    | nilFunc => exact SS.dies (Dies.runtimePanic _)
    | bool b => exact SS.pure (.value (.bool b))
    | int k n => exact SS.pure (.value (.int k n))
    | string s => exact SS.pure (.value (.string s))
    | ptr r => exact SS.pure (.value (.ptr r))
    | sliceNil n c => exact SS.pure (.value (.sliceNil n c))
    | slice r => exact SS.pure (.value (.slice r))
    | mapNil => exact SS.pure (.value .mapNil)
    | map r => exact SS.pure (.value (.map r))
    | func a b => exact SS.pure (.value (.func a b))
    | yield r => exact SS.pure (.value (.yield r))
    | agg r => exact SS.pure (.value (.agg r))
    | tuple r => exact SS.pure (.value (.tuple r))
  | binOp op t x y yt =>
    rw [hop] at h hv
    simp only [Bool.or_eq_true, Bool.not_eq_true'] at h
    have hx := hv x (by simp [Op.operands])
    have hy := hv y (by simp [Op.operands])
    have ho : isEq op = true → eqOk X.P X.P' t x y = true := fun hi => h.resolve_left (by rw [hi]; simp)
    refine SS.val ?_
    refine (SS.eqGuard op t x y ho e e' hx hy he.2).bind fun ρ1 _ _ le _ => ?_
    exact SS.binOp H op t x y ho e e' (hx.mono le) (hy.mono le) he.2
  | unOp op t x => rw [hop] at hv; exact SS.val (SS.unary op (hv x (by simp [Op.operands])))
  | convert s d x => rw [hop] at h hv; exact SS.val (SS.convert H s d h (hv x (by simp [Op.operands])))
  | makeFunc fn first cs =>
    rw [hop] at h hv
    cases fn <;> first | (exact Bool.noConfusion h) | skip
    simp only [Bool.and_eq_true, Array.isEmpty_iff] at h
    obtain ⟨h1, rfl⟩ := h
    refine SS.val (SS.pure ?_)
    simp only [List.map_toArray, List.map_nil]
    refine .func (H.fb _ h1) ?_
    rw [Array.toList_map, Array.toList_map]
    exact all_args (Fb := Fb) fun x hx => hv x (by simp [Op.operands]; simpa using hx)
  | makeMap t r =>
    rw [hop] at h
    cases r with
    | some r => exact Bool.noConfusion h
    | none =>
      refine SS.val ?_
      exact (SS.newObj (X := X) (ρ := ρ) (o := .map #[] 0) (o' := .map #[] 0) (fun _ _ => .map .nil)).bind fun _ a a' _ ha => SS.pure (.map ha)
  | slice t x lo hi mx =>
    rw [hop] at h hv
    cases mx with
    | some r => exact Bool.noConfusion h
    | none =>
      have ov : ∀ y : Option Operand, (∀ z, y = some z → VR X.F ρ (e z) (e' z)) → OVR X.F ρ (y.map e) (y.map e') := fun y hy => by
        cases y with
        | none => exact .inl ⟨rfl, rfl⟩
        | some z => exact .inr ⟨_, _, rfl, rfl, hy z rfl⟩
      refine SS.val (SS.sliceAt H t (hv x (by simp [Op.operands])) (ov lo fun z hz => hv z (by simp [Op.operands, hz])) (ov hi fun z hz => hv z (by simp [Op.operands, hz])))
  | fieldAddr s x f =>
    rw [hop] at h hv
    simp only at h
    cases hu : X.P.underlying s with
    | none => rw [hu] at h; cases h
    | some d =>
      rw [hu] at h
      cases d <;> first | (exact Bool.noConfusion h) | skip
      rename_i fs
      simp only at h
      cases hf : fs[f]? with
      | none => rw [hf] at h; cases h
      | some fd =>
        rw [hf] at h
        exact SS.val (SS.fieldAt H s f hu hf (by simpa using h) (hv x (by simp [Op.operands])))
  | field t x f => rw [hop] at hv; exact SS.val (SS.field H t f (hv x (by simp [Op.operands])))
  | indexAddr t x i => rw [hop] at hv; exact SS.val (SS.indexAt H t (hv x (by simp [Op.operands])) (hv i (by simp [Op.operands])))
  | index t x i => rw [hop] at hv; exact SS.val (SS.index H t (hv x (by simp [Op.operands])) (hv i (by simp [Op.operands])))
  | lookup xt x i ok =>
    rw [hop] at h hv
    simp only at h
    cases hu : X.P.underlying xt with
    | none => rw [hu] at h; cases h
    | some d =>
      rw [hu] at h
      cases d <;> first | (exact Bool.noConfusion h) | skip
      simp only [Bool.and_eq_true] at h
      exact SS.val (SS.lookup H xt _ _ hu h.1 h.2 (hv x (by simp [Op.operands])) (hv i (by simp [Op.operands])) ok)
  | mapUpdate t m k x =>
    rw [hop] at h hv
    simp only [Bool.and_eq_true] at h
    obtain ⟨h1, h⟩ := h
    cases hu : X.P.underlying t with
    | none => rw [hu] at h; cases h
    | some d =>
      rw [hu] at h
      cases d <;> first | (exact Bool.noConfusion h) | skip
      exact SS.unit (SS.mapUpdate H (hw h1) t _ _ hu h (hv m (by simp [Op.operands])) (hv k (by simp [Op.operands])) (hv x (by simp [Op.operands])))
  | insert t m k x =>
    rw [hop] at h hv
    have h' : (wr && match X.P.underlying t with
      | some (.map k _) => eqTy X.P X.P' 8 k
      | _ => false) = true := h
    clear h
    obtain ⟨h1, h⟩ := (Bool.and_eq_true _ _).mp h'
    cases hu : X.P.underlying t with
    | none => rw [hu] at h; cases h
    | some d =>
      rw [hu] at h
      cases d <;> first | (exact Bool.noConfusion h) | skip
      exact SS.unit (SS.mapUpdate H (hw h1) t _ _ hu h (hv m (by simp [Op.operands])) (hv k (by simp [Op.operands])) (hv x (by simp [Op.operands])))
  | range t x => rw [hop] at hv; exact SS.val (SS.range H t (hv x (by simp [Op.operands])))
  | next it b => rw [hop] at hv; exact SS.val (SS.next H (hv it (by simp [Op.operands])) b _)
  | entry it => rw [hop] at hv; exact SS.val (SS.entry (hv it (by simp [Op.operands])))
  | extract x i =>
    rw [hop] at hv
    have hx := hv x (by simp [Op.operands])
    refine SS.val ?_
    generalize e x = vx at hx
    generalize e' x = vx' at hx
    unfold Instr.extract
    cases hx with
    | tuple hcs =>
      simp only
      rcases hcs.toA (i := i) with ⟨a1, a2⟩ | ⟨v, v', a1, a2, hv⟩
      · rw [a1, a2]; exact SS.halt
      · rw [a1, a2]; exact SS.pure hv
    | _ => exact SS.halt
  | call c =>
    rw [hop] at h hv
    exact SS.call H wr hw c o.type e e' (fun x hx => hv x hx) h
  | _ => rw [hop] at h; exact Bool.noConfusion h
end

end Go.Proofs.YtkpekiajdlolnabGreat.Sim

/-
  THE SIMULATION, ninth text: frames; what an operation's reckoning makes of a goroutine.
-/
namespace Go.Proofs.YtkpekiajdlolnabGreat.Sim
open Go Go.Conc

def codeOk (P P' : Program) (Fb : FuncId → Bool) (wr : Bool) : Code → Bool
  | .skip | .exit _ | .ret => true
  | .region _ ops _ => ops.toList.all (okOp P P' Fb wr)
  | .seq a b => codeOk P P' Fb wr a && codeOk P P' Fb wr b
  | .cond c a b => okOperand Fb c && (codeOk P P' Fb wr a && codeOk P P' Fb wr b)
  | .block _ b | .loop b => codeOk P P' Fb wr b
  | .rangeFunc f _ a b => okOperand Fb f && (codeOk P P' Fb wr a && codeOk P P' Fb wr b)
  | _ => false

/-- The whole setting: 'sp': functions whose bodies differ in the two programs. -/
structure Cx.Set (X : Cx) (Fb : FuncId → Bool) (wr : Bool) (sp : FuncId → Bool) : Prop where
  ok : X.Ok Fb
  c : ∀ c, X.C c ↔ codeOk X.P X.P' Fb wr c = true
  wrs : wr = true → ∀ b, ¬ X.Sh b
  plain : ∀ f, X.F f → sp f = false → ∃ fn c, X.P.funcs[f]? = some fn ∧ X.P'.funcs[f]? = some fn ∧ fn.body = some c ∧ codeOk X.P X.P' Fb wr c = true

inductive IR (X : Cx) (Fb : FuncId → Bool) (wr : Bool) (ρ : Rel) : Item → Item → Prop
  | code {c : Code} : codeOk X.P X.P' Fb wr c = true → IR X Fb wr ρ (.code c) (.code c)
  | inBlock (id : Nat) : IR X Fb wr ρ (.inBlock id) (.inBlock id)
  | inLoop {c : Code} : codeOk X.P X.P' Fb wr c = true → IR X Fb wr ρ (.inLoop c) (.inLoop c)
  | inRegion {ops : Array Oper} (td : List Nat) : ops.toList.all (okOp X.P X.P' Fb wr) = true → IR X Fb wr ρ (.inRegion ops td) (.inRegion ops td)
  | inRangeFunc {l l' : Nat} : ρ l l' → IR X Fb wr ρ (.inRangeFunc l) (.inRangeFunc l')
  | endRangeFunc {l l' : Nat} : ρ l l' → IR X Fb wr ρ (.endRangeFunc l) (.endRangeFunc l')
  | beginRound : IR X Fb wr ρ .beginRound .beginRound
inductive IsR (X : Cx) (Fb : FuncId → Bool) (wr : Bool) (ρ : Rel) : List Item → List Item → Prop
  | nil : IsR X Fb wr ρ [] []
  | cons {i i' : Item} {l l' : List Item} : IR X Fb wr ρ i i' → IsR X Fb wr ρ l l' → IsR X Fb wr ρ (i :: l) (i' :: l')
inductive DsR (ρ : Rel) : List Deferred → List Deferred → Prop
  | nil : DsR ρ [] []
  | cons {r r' : Nat} {l l' : List Deferred} : ρ r r' → DsR ρ l l' → DsR ρ ({ target := .collected r, args := #[] } :: l) ({ target := .collected r', args := #[] } :: l')
def OptR (ρ : Rel) (x x' : Option Nat) : Prop := (x = none ∧ x' = none) ∨ ∃ l l', x = some l ∧ x' = some l' ∧ ρ l l'

structure FR (X : Cx) (Fb : FuncId → Bool) (wr : Bool) (ρ : Rel) (fr fr' : Frame) : Prop where
  fn : fr'.fn = fr.fn
  same : ∃ f, X.P.funcs[fr.fn]? = some f ∧ X.P'.funcs[fr.fn]? = some f
  tmps : VsR X.F ρ fr.tmps.toList fr'.tmps.toList
  todo : IsR X Fb wr ρ fr.todo fr'.todo
  defers : DsR ρ fr.defers fr'.defers
  mode : fr'.mode = fr.mode
  run : fr.mode = .run ∨ fr.mode = .returning
  kind : fr.kind = .normal
  kind' : fr'.kind = .normal
  round : OptR ρ fr.roundOf fr'.roundOf
inductive FsR (X : Cx) (Fb : FuncId → Bool) (wr : Bool) (ρ : Rel) : List Frame → List Frame → Prop
  | nil : FsR X Fb wr ρ [] []
  | cons {f f' : Frame} {l l' : List Frame} : FR X Fb wr ρ f f' → FsR X Fb wr ρ l l' → FsR X Fb wr ρ (f :: l) (f' :: l')

section
variable {X : Cx} {Fb : FuncId → Bool} {wr : Bool} {sp : FuncId → Bool} {ρ ρ' : Rel}
theorem IR.mono (h : ρ.le ρ') {i i' : Item} (k : IR X Fb wr ρ i i') : IR X Fb wr ρ' i i' := by
  cases k with
  | code c => exact .code c
  | inBlock id => exact .inBlock id
  | inLoop c => exact .inLoop c
  | inRegion td c => exact .inRegion td c
  | inRangeFunc r => exact .inRangeFunc (h _ _ r)
  | endRangeFunc r => exact .endRangeFunc (h _ _ r)
  | beginRound => exact .beginRound
theorem IsR.mono (h : ρ.le ρ') : ∀ {l l' : List Item}, IsR X Fb wr ρ l l' → IsR X Fb wr ρ' l l'
  | _, _, .nil => .nil
  | _, _, .cons a b => .cons (a.mono h) (b.mono h)
theorem DsR.mono (h : ρ.le ρ') : ∀ {l l' : List Deferred}, DsR ρ l l' → DsR ρ' l l'
  | _, _, .nil => .nil
  | _, _, .cons a b => .cons (h _ _ a) (b.mono h)
theorem OptR.mono (h : ρ.le ρ') {x x' : Option Nat} (k : OptR ρ x x') : OptR ρ' x x' := k.imp id fun ⟨l, l', a, b, c⟩ => ⟨l, l', a, b, h _ _ c⟩
theorem FR.mono (h : ρ.le ρ') {f f' : Frame} (k : FR X Fb wr ρ f f') : FR X Fb wr ρ' f f' :=
  ⟨k.fn, k.same, k.tmps.mono h, k.todo.mono h, k.defers.mono h, k.mode, k.run, k.kind, k.kind', k.round.mono h⟩
theorem FsR.mono (h : ρ.le ρ') : ∀ {l l' : List Frame}, FsR X Fb wr ρ l l' → FsR X Fb wr ρ' l l'
  | _, _, .nil => .nil
  | _, _, .cons a b => .cons (a.mono h) (b.mono h)

/-- an operation's value laid in. -/
theorem FR.finish {f f' : Frame} (k : FR X Fb wr ρ f f') {v v' : Value} (hv : VR X.F ρ v v') : FR X Fb wr ρ (f.finish v) (f'.finish v') := by
  obtain ⟨fn, tmps, todo, defers, mode, kind, ro⟩ := f
  obtain ⟨fn', tmps', todo', defers', mode', kind', ro'⟩ := f'
  obtain ⟨k1, k2, k3, k4, k5, k6, k7, k8, k9, k10⟩ := k
  simp only at k1 k2 k3 k4 k5 k6 k7 k8 k9 k10
  subst k1
  cases k4 with
  | nil => exact ⟨rfl, k2, k3, .nil, k5, k6, k7, k8, k9, k10⟩
  | cons a b =>
    cases a with
    | code c => exact ⟨rfl, k2, k3, .cons (.code c) b, k5, k6, k7, k8, k9, k10⟩
    | inBlock id => exact ⟨rfl, k2, k3, .cons (.inBlock id) b, k5, k6, k7, k8, k9, k10⟩
    | inLoop c => exact ⟨rfl, k2, k3, .cons (.inLoop c) b, k5, k6, k7, k8, k9, k10⟩
    | @inRegion ops td c =>
      cases td with
      | nil => exact ⟨rfl, k2, k3, .cons (.inRegion [] c) b, k5, k6, k7, k8, k9, k10⟩
      | cons i td =>
        refine ⟨rfl, k2, ?_, .cons (.inRegion td c) b, k5, k6, k7, k8, k9, k10⟩
        simp only [Frame.finish]
        split
        · exact k3.aset _ hv
        · exact k3
    | inRangeFunc r => exact ⟨rfl, k2, k3, .cons (.endRangeFunc r) b, k5, k6, k7, k8, k9, k10⟩
    | endRangeFunc r => exact ⟨rfl, k2, k3, .cons (.endRangeFunc r) b, k5, k6, k7, k8, k9, k10⟩
    | beginRound => exact ⟨rfl, k2, k3, b, k5, k6, k7, k8, k9, k10⟩
/-- the frame with other things to do. -/
theorem FR.with {f f' : Frame} (k : FR X Fb wr ρ f f') {td td' : List Item} (h : IsR X Fb wr ρ td td') : FR X Fb wr ρ { f with todo := td } { f' with todo := td' } :=
  ⟨k.fn, k.same, k.tmps, h, k.defers, k.mode, k.run, k.kind, k.kind', k.round⟩

/-- The lowest frame is no round of a loop over a function. -/
def Bot (l : List Frame) : Prop := ∀ f, l.getLast? = some f → f.roundOf = none
theorem Bot.cons {f g : Frame} {l : List Frame} (h : Bot (g :: l)) : Bot (f :: g :: l) := fun x hx => h x (by rw [List.getLast?_cons_cons] at hx; exact hx)
theorem Bot.tail {f g : Frame} {l : List Frame} (h : Bot (f :: g :: l)) : Bot (g :: l) := fun x hx => h x (by rw [List.getLast?_cons_cons]; exact hx)
theorem Bot.swap {f g : Frame} {l : List Frame} (e : g.roundOf = f.roundOf) (h : Bot (f :: l)) : Bot (g :: l) := by
  cases l with
  | nil => intro x hx; simp at hx; subst hx; rw [e]; exact h f (by simp)
  | cons y l => exact h.tail.cons
theorem finish_round (f : Frame) (v : Value) : (f.finish v).roundOf = f.roundOf := by
  unfold Frame.finish
  split <;> rfl

/-- Frames whose deferred calls are marks of loops alone. -/
def Marked (w : World) (fr : Frame) : Prop := ∀ d ∈ fr.defers, ∃ r, d.target = .collected r ∧ Clean w r
theorem Marked.keep {w w1 : World} {fr : Frame} (h : Marked w fr) (k : KC w w1) : Marked w1 fr := fun d hd => let ⟨r, h1, h2⟩ := h d hd; ⟨r, h1, k r h2⟩
theorem WR.clean {X : Cx} {ρ : Rel} {w w' : World} (hw : WR X ρ w w') {r r' : Nat} (h : ρ r r') : Clean w r := fun d ds e => by
  obtain ⟨o, o', h1, _, h3⟩ := hw.heap h
  rw [e] at h1
  cases h1
  cases h3
theorem DsR.marked {X : Cx} {ρ : Rel} {w w' : World} (hw : WR X ρ w w') {l l' : List Deferred} (h : DsR ρ l l') : ∀ d ∈ l, ∃ r, d.target = .collected r ∧ Clean w r := by
  induction h with
  | nil => intro d hd; cases hd
  | cons a b ih => intro d hd; rcases List.mem_cons.1 hd with rfl | hd; exact ⟨_, rfl, hw.clean a⟩; exact ih d hd
theorem FR.marked {X : Cx} {Fb : FuncId → Bool} {wr : Bool} {ρ : Rel} {f f' : Frame} {w w' w1 : World} (h : FR X Fb wr ρ f f') (hw : WR X ρ w w') (k : KC w w1) : Marked w1 f := Marked.keep (w := w) (h.defers.marked hw) k
theorem FsR.marked {X : Cx} {Fb : FuncId → Bool} {wr : Bool} {ρ : Rel} {w w' w1 : World} (hw : WR X ρ w w') (k : KC w w1) : ∀ {l l' : List Frame}, FsR X Fb wr ρ l l' → ∀ f ∈ l, Marked w1 f
  | _, _, .nil, f, hf => by cases hf
  | _, _, .cons a b, f, hf => by
    rcases List.mem_cons.1 hf with rfl | hf
    · exact a.marked hw k
    · exact FsR.marked hw k b f hf
/-- What a step may come to: the two go on alike; a function with two bodies is entered; a panic. -/
inductive Out (X : Cx) (Fb : FuncId → Bool) (wr : Bool) (sp : FuncId → Bool) (base base' : List Frame) (ρ : Rel) (w w' : World) (r' : GStep) : GStep → Prop
  | nice {fr1 fr1' : Frame} {up1 up1' : List Frame} {ρ1 : Rel} {w1 w1' : World} {es es' : Array Event} :
      r' = .go (G fr1' (up1' ++ base')) w1' es' → FR X Fb wr ρ1 fr1 fr1' → FsR X Fb wr ρ1 up1 up1' → WR X ρ1 w1 w1' → Eff X ρ ρ1 w' w1' w → w.heap.size ≤ w1.heap.size → (∀ e ∈ es', EvOK X ρ1 e) → NB w1 → Bot (fr1 :: up1) →
      Out X Fb wr sp base base' ρ w w' r' (.go (G fr1 (up1 ++ base)) w1 es)
  | special {fr1 fr1' : Frame} {up1 up1' : List Frame} {f : FuncId} {ars ars' : Array Value} {ρ1 : Rel} {w1 w1' : World} {es es' : Array Event} : X.F f → sp f = true →
      r' = .go (G (Frame.enter X.P' f ars' .normal) (fr1' :: up1' ++ base')) w1' es' → VsR X.F ρ1 ars.toList ars'.toList → FR X Fb wr ρ1 fr1 fr1' → FsR X Fb wr ρ1 up1 up1' → WR X ρ1 w1 w1' → Eff X ρ ρ1 w' w1' w → w.heap.size ≤ w1.heap.size → (∀ e ∈ es', EvOK X ρ1 e) → NB w1 → Bot (fr1 :: up1) →
      Out X Fb wr sp base base' ρ w w' r' (.go (G (Frame.enter X.P f ars .normal) (fr1 :: up1 ++ base)) w1 es)
  | panic {fr1 : Frame} {up1 : List Frame} {chain : List PanicEntry} {w1 : World} {es : Array Event} : Marked w1 fr1 → (∀ f ∈ up1, Marked w1 f) → Out X Fb wr sp base base' ρ w w' r' (.go (G { fr1 with mode := .panicking chain } (up1 ++ base)) w1 es)
  | ended {o : Outcome} {w1 : World} {es : Array Event} : Out X Fb wr sp base base' ρ w w' r' (.ended o w1 es)

/-- behind something that was done first. -/
theorem Out.after {base base' : List Frame} {ρ0 : Rel} {w0 w0' w w' : World} {r' : GStep} {s1 : GStep} {es0 : Array Event} (h : Out X Fb wr sp base base' ρ w w' r' s1) (he : Eff X ρ0 ρ w0' w' w0) (hsz : w0.heap.size ≤ w.heap.size) (hev : ∀ e ∈ es0, EvOK X ρ e) :
    Out X Fb wr sp base base' ρ0 w0 w0' (GStep.after es0 r') s1 := by
  cases h with
  | nice e h1 h2 h3 h4 h5 h6 h7 h8 =>
    subst e
    refine .nice rfl h1 h2 h3 (he.trans h4 hsz) (Nat.le_trans hsz h5) (fun e hm => ?_) h7 h8
    rcases Array.mem_append.1 hm with hm | hm
    · exact (hev e hm).mono h4.le
    · exact h6 e hm
  | special k1 k2 e h0 h1 h2 h3 h4 h5 h6 h7 h8 =>
    subst e
    refine .special k1 k2 rfl h0 h1 h2 h3 (he.trans h4 hsz) (Nat.le_trans hsz h5) (fun e hm => ?_) h7 h8
    rcases Array.mem_append.1 hm with hm | hm
    · exact (hev e hm).mono h4.le
    · exact h6 e hm
  | panic h1 h2 => exact .panic h1 h2
  | ended => exact .ended

theorem seen_sub {P : Program} {fn : FuncId} {es : Array Event} {e : Event} (h : e ∈ seen P fn es) : e ∈ es := by
  have key : ∀ (l : List Event) (f : Bool × Array Event → Event → Bool × Array Event) (x : Bool × Array Event), (∀ y e', (f y e').2 = y.2 ∨ (f y e').2 = y.2.push e') → e ∈ (l.foldl f x).2 → e ∈ x.2 ∨ e ∈ l := by
    intro l
    induction l with
    | nil => intro f x _ h; exact .inl h
    | cons y l ih =>
      intro f x hf h
      rcases ih f _ hf h with h' | h'
      · rcases hf x y with e1 | e1
        · rw [e1] at h'; exact .inl h'
        · rw [e1] at h'
          rcases Array.mem_push.1 h' with h'' | h''
          · exact .inl h''
          · exact .inr (by simp [h''])
      · exact .inr (by simp [h'])
  dsimp only [seen] at h
  rw [← Array.foldl_toList] at h
  have h2 := key es.toList _ _ (by
    rintro ⟨q, kept⟩ e'
    dsimp only
    split
    · exact .inl rfl
    · dsimp only
      split
      · exact .inl rfl
      · exact .inr rfl) h
  rcases h2 with h' | h'
  · simp at h'
  · simpa using h'

theorem enter_FR (S : X.Set Fb wr sp) {f : FuncId} (hf : X.F f) (hs : sp f = false) {ars ars' : Array Value} (ha : VsR X.F ρ ars.toList ars'.toList) :
    FR X Fb wr ρ (Frame.enter X.P f ars .normal) (Frame.enter X.P' f ars' .normal) := by
  obtain ⟨fn, c, h1, h2, h3, h4⟩ := S.plain f hf hs
  unfold Frame.enter
  simp only [h1, h2]
  refine ⟨rfl, ⟨fn, h1, h2⟩, ?_, ?_, .nil, rfl, .inl rfl, rfl, rfl, .inl ⟨rfl, rfl⟩⟩
  · refine ha.aappend ?_
    rw [ha.size, Array.toList_replicate]
    exact VsR.replicate undefR _
  · simp only [Option.bind_some, h3, Option.getD_some]
    exact .cons (.code h4) .nil

/-- WHAT AN OPERATION'S RECKONING MAKES OF THE GOROUTINE. -/
theorem apply_sim (S : X.Set Fb wr sp) {base base' up up' : List Frame} {fr fr' : Frame} {w w' : World} (hf : FR X Fb wr ρ fr fr') (hu : FsR X Fb wr ρ up up') (hw : WR X ρ w w') (hn : NB w) (hm : fr.mode = .run) (hB : Bot (fr :: up))
    {s s' : Sem Next} (hs : SS X ρ s s' (fun ρ1 n n' => NR X ρ1 n n')) {s1 : GStep}
    (hstep : stepG.apply X.P true fr (up ++ base) none s w = s1) :
    Out X Fb wr sp base base' ρ w w' (stepG.apply X.P' true fr' (up' ++ base') none s' w') s1 := by
  have raised : ∀ vs, fr.raise vs = { fr with mode := .panicking vs } := fun vs => by unfold Frame.raise; rw [hm]
  have e1 : (fr.kind == CallKind.early) = false := by rw [hf.kind]; rfl
  have e2 : (fr'.kind == CallKind.early) = false := by rw [hf.kind']; rfl
  cases hr : s.run X.P w with
  | halt h wx =>
    obtain ⟨hmild, hnb⟩ := hs.2 w w' h wx hw hr
    have hr' : (s.runT X.P w #[]).1 = .halt h wx := by rw [Sem.runT_fst]; exact hr
    unfold stepG.apply at hstep
    simp only [if_true] at hstep
    rw [show s.runT X.P w #[] = (.halt h wx, (s.runT X.P w #[]).2) from by rw [← hr']] at hstep
    cases h with
    | panic v =>
      simp only [GStep.after] at hstep
      rw [raised] at hstep
      cases hstep
      exact .panic (hf.marked hw hnb) (FsR.marked hw hnb hu)
    | unsupported u =>
      cases u with
      | initOrder b => exact hmild.elim
      | _ => simp only [GStep.after] at hstep; cases hstep; exact .ended
    | stuck m => simp only [GStep.after] at hstep; cases hstep; exact .ended
    | _ => exact hmild.elim
  | ok n wx =>
    obtain ⟨ρ1, n', w1', es1, h1, h2, h3, h4, h5, h6, h7⟩ := hs.1 w w' n wx #[] hw hr
    have hr' : s.runT X.P w #[] = (.ok n wx, (s.runT X.P w #[]).2) := by
      have : (s.runT X.P w #[]).1 = .ok n wx := by rw [Sem.runT_fst]; exact hr
      rw [← this]
    have hev : ∀ e ∈ seen X.P' fr'.fn (#[] ++ es1), EvOK X ρ1 e := fun e he => h5 e (by simpa using seen_sub he)
    unfold stepG.apply at hstep ⊢
    simp only [if_true] at hstep ⊢
    rw [hr'] at hstep
    rw [h1]
    simp only [e1, e2, Bool.false_eq_true, if_false] at hstep ⊢
    have hf1 := hf.mono h3.le
    have hu1 := hu.mono h3.le
    cases h6 with
    | value hv =>
      simp only [GStep.after] at hstep ⊢
      cases hstep
      exact .nice rfl (hf1.finish hv) hu1 h2 h3 h4 (by simpa using hev) trivial (hB.swap (finish_round _ _))
    | skip =>
      simp only [GStep.after] at hstep ⊢
      cases hstep
      exact .nice rfl (hf1.finish undefR) hu1 h2 h3 h4 (by simpa using hev) trivial (hB.swap (finish_round _ _))
    | @enter f ars ars' hF ha =>
      have fin : ∀ (k k' : CallKind), k = .normal → k' = .normal → GStep.go { frame := Frame.enter X.P f ars k, callers := fr :: (up ++ base), status := .running, dying := none } wx (seen X.P fr.fn (s.runT X.P w #[]).2 ++ #[]) = s1 →
          Out X Fb wr sp base base' ρ w w' (.go { frame := Frame.enter X.P' f ars' k', callers := fr' :: (up' ++ base'), status := .running, dying := none } w1' (seen X.P' fr'.fn (#[] ++ es1) ++ #[])) s1 := by
        intro k k' hk hk' hst
        subst hk; subst hk'
        cases hst
        cases hsp : sp f with
        | true => exact .special hF hsp rfl ha hf1 hu1 h2 h3 h4 (by simpa using hev) trivial hB
        | false => exact .nice (up1 := fr :: up) (up1' := fr' :: up') rfl (enter_FR S hF hsp ha) (.cons hf1 hu1) h2 h3 h4 (by simpa using hev) trivial hB.cons
      simp only [GStep.after] at hstep ⊢
      refine fin _ _ ?_ ?_ hstep
      · have := hf.todo
        cases h : fr.todo with
        | nil => rfl
        | cons i l =>
          rw [h] at this
          cases i <;> first | rfl | (exfalso; generalize fr'.todo = l' at this; cases this with | cons a b => cases a)
      · have := hf.todo
        cases h : fr'.todo with
        | nil => rfl
        | cons i l =>
          rw [h] at this
          cases i <;> first | rfl | (exfalso; generalize fr.todo = l' at this; cases this with | cons a b => cases a)
    | @round l l' f ts ts' a b hl ht ha hb hsame =>
      simp only [GStep.after] at hstep ⊢
      cases hstep
      refine .nice (up1 := fr :: up) (up1' := fr' :: up') rfl ?_ (.cons hf1 hu1) h2 h3 h4 (by simpa using hev) trivial hB.cons
      obtain ⟨ff, g1, g2⟩ := hsame
      exact ⟨rfl, ⟨ff, g1, g2⟩, ht, .cons (.code ((S.c _).1 ha)) (.cons .beginRound (.cons (.code ((S.c _).1 hb)) .nil)), .nil, rfl, .inl rfl, rfl, rfl, .inr ⟨_, _, rfl, rfl, hl⟩⟩
end

end Go.Proofs.YtkpekiajdlolnabGreat.Sim

/-
  THE SIMULATION, tenth text: ONE STEP OF THE GOROUTINE.
-/
namespace Go.Proofs.YtkpekiajdlolnabGreat.Sim
open Go Go.Conc

section
variable {X : Cx} {Fb : FuncId → Bool} {wr : Bool} {sp : FuncId → Bool} {ρ ρ' : Rel}

/-! ### what a loop over a function keeps -/
theorem SS.beginRound {l l' : Nat} (h : ρ l l') : SS X ρ (Instr.beginRound l) (Instr.beginRound l') (fun _ _ _ => True) := by
  unfold Instr.beginRound Instr.getLoop
  simp only [bind_assoc]
  refine (SS.getObj h).bind fun ρ1 o o' le ⟨ho, hsh, _⟩ => ?_
  cases ho with
  | @loop s pend fn tmps tmps' params assign body d d' a b c e f g =>
    have ns : ¬ X.Sh l := fun hs => by obtain ⟨_, _, e⟩ := hsh hs; cases e
    simp only [pure_bind]
    refine (SS.setObj (le _ _ h) (.loop a b c e f g) ns).bind fun ρ2 _ _ le2 _ => ?_
    cases s <;> first | exact SS.pure trivial | exact SS.dies (Dies.runtimePanic _)
  | _ => exact SS.halt
theorem SS.endRound {l l' : Nat} (h : ρ l l') (jump : Option Code) (hj : ∀ c, jump = some c → X.C c) : SS X ρ (Instr.endRound l jump) (Instr.endRound l' jump) (fun ρ1 v v' => VR X.F ρ1 v v') := by
  unfold Instr.endRound Instr.getLoop
  simp only [bind_assoc]
  refine (SS.getObj h).bind fun ρ1 o o' le ⟨ho, hsh, _⟩ => ?_
  cases ho with
  | @loop s pend fn tmps tmps' params assign body d d' a b c e f g =>
    have ns : ¬ X.Sh l := fun hs => by obtain ⟨_, _, e⟩ := hsh hs; cases e
    simp only [pure_bind]
    exact (SS.setObj (le _ _ h) (.loop a b hj e f g) ns).bind fun ρ2 _ _ le2 _ => SS.pure (.bool _)
  | _ => exact SS.halt
theorem SS.endLoop {l l' : Nat} (h : ρ l l') : SS X ρ (Instr.endLoop l) (Instr.endLoop l') (fun _ j j' => j = j' ∧ ∀ c, j = some c → X.C c) := by
  unfold Instr.endLoop Instr.getLoop
  simp only [bind_assoc]
  refine (SS.getObj h).bind fun ρ1 o o' le ⟨ho, hsh, _⟩ => ?_
  cases ho with
  | @loop s pend fn tmps tmps' params assign body d d' a b c e f g =>
    have ns : ¬ X.Sh l := fun hs => by obtain ⟨_, _, e⟩ := hsh hs; cases e
    simp only [pure_bind]
    refine SS.ite (fun _ => SS.dies (Dies.bindL (Dies.runtimePanic _))) (fun _ => ?_)
    exact (SS.setObj (le _ _ h) (.loop a b c e f g) ns).bind fun ρ2 _ _ le2 _ => SS.pure ⟨rfl, c⟩
  | _ => exact SS.halt
theorem SS.takeDeferred {l l' : Nat} (h : ρ l l') : SS X ρ (Instr.takeDeferred l) (Instr.takeDeferred l') (fun _ j j' => j = [] ∧ j' = []) := by
  unfold Instr.takeDeferred
  refine (SS.getObj h).bind fun ρ1 o o' le ⟨ho, hsh, _⟩ => ?_
  cases ho with
  | deferred =>
    have ns : ¬ X.Sh l := fun hs => by obtain ⟨_, _, e⟩ := hsh hs; cases e
    exact (SS.setObj (le _ _ h) .deferredNone ns).bind fun ρ2 _ _ le2 _ => SS.pure ⟨rfl, rfl⟩
  | _ => exact SS.halt
theorem SS.enterLoop {fn : FuncId} (hG : X.G fn) {ts ts' : Array Value} (ht : VsR X.F ρ ts.toList ts'.toList) (params : Array Tmp) {assign body : Code} (ha : X.C assign) (hb : X.C body) {r r' : Option Nat} (hr : OptR ρ r r') :
    SS X ρ (Instr.enterLoop fn ts params assign body r) (Instr.enterLoop fn ts' params assign body r') (fun ρ1 p p' => ρ1 p.1 p'.1 ∧ DsR ρ1 p.2 p'.2) := by
  unfold Instr.enterLoop
  have tail : ∀ (ρ1 : Rel) (d d' : Nat) (m m' : List Deferred), ρ.le ρ1 → ρ1 d d' → DsR ρ1 m m' → SS X ρ1 (do Pure.pure (← Go.newObj (.loop { state := .ready, pending := none, fn, tmps := ts, params, assign, body, defers := d }), m))
      (do Pure.pure (← Go.newObj (.loop { state := .ready, pending := none, fn, tmps := ts', params, assign, body, defers := d' }), m')) (fun ρ1 p p' => ρ1 p.1 p'.1 ∧ DsR ρ1 p.2 p'.2) := by
    intro ρ1 d d' m m' le hd hm
    refine (SS.newObj (fun a b => .loop ((ht.mono le).mono (addPair_le _ _ _)) (addPair_le _ _ _ _ _ hd) (fun c e => by cases e) ha hb hG)).bind fun ρ2 q q' le2 hq => ?_
    exact SS.pure ⟨hq, hm.mono le2⟩
  rcases hr with ⟨rfl, rfl⟩ | ⟨l, l', rfl, rfl, hl⟩
  · refine (SS.newObj (fun a b => .deferred)).bind fun ρ1 q q' le hq => ?_
    exact tail ρ1 q q' _ _ le hq (.cons hq .nil)
  · unfold Instr.getLoop
    simp only [bind_assoc]
    refine (SS.getObj hl).bind fun ρ1 o o' le ⟨ho, hsh, _⟩ => ?_
    cases ho with
    | @loop s pend fn tmps tmps' params assign body d d' a b c e f g =>
      exact tail ρ1 d d' [] [] le b .nil
    | _ => exact SS.halt
theorem SS.results {f : Func} (H : X.Ok Fb) {ts ts' : Array Value} (ht : VsR X.F ρ ts.toList ts'.toList) : SS X ρ (results f ts) (results f ts') (fun ρ1 v v' => VR X.F ρ1 v v') := by
  unfold Go.results
  have key : ∀ (l : List ResultVar) {ρ1 : Rel}, ρ.le ρ1 → SS X ρ1 (l.mapM fun
      | .tmp t => Pure.pure (ts.getD t undef)
      | .cell a t => do Go.loadVar t (← Go.asAddr (ts.getD a undef))) (l.mapM fun
      | .tmp t => Pure.pure (ts'.getD t undef)
      | .cell a t => do Go.loadVar t (← Go.asAddr (ts'.getD a undef))) (fun ρ1 v v' => VsR X.F ρ1 v v') := by
    intro l
    induction l with
    | nil => intro ρ1 _; exact SS.pure .nil
    | cons x l ih =>
      intro ρ1 le
      rw [List.mapM_cons, List.mapM_cons]
      refine SS.bind (Q := fun ρ2 v v' => VR X.F ρ2 v v') ?_ fun ρ2 v v' le2 hv => ?_
      · cases x with
        | tmp t => exact SS.pure ((ht.mono le).agetD t)
        | cell a t => exact (SS.asAddr ((ht.mono le).agetD a)).bind fun _ a a' _ ha => SS.loadVar H t ha
      · exact (ih (Rel.le_trans le le2)).bind fun ρ3 l l' le3 hl => SS.pure (.cons (hv.mono le3) hl)
  rw [← Array.toArray_toList (xs := f.results)]
  simp only [List.mapM_toArray]
  refine SS.bind (Q := fun ρ1 (v v' : Array Value) => VsR X.F ρ1 v.toList v'.toList) ((key f.results.toList ρ.le_refl).bind fun _ l l' _ hl => SS.pure (by simpa using hl)) fun ρ1 v v' _ hv => SS.pure ?_
  have hs := hv.size
  by_cases h1 : v.size = 1
  · have h1' : v'.size = 1 := by omega
    rw [dif_pos h1, dif_pos h1']
    obtain ⟨x', e1, e2⟩ := hv.aget (i := 0) (v := v[0]) (by simp)
    have : x' = v'[0] := by simpa [h1'] using e1.symm
    rw [← this]; exact e2
  · have h1' : ¬ v'.size = 1 := by omega
    rw [dif_neg h1, dif_neg h1']
    exact .tuple hv

theorem yielded_R {F : FuncId → Prop} {ts ts' : Array Value} (h : VsR F ρ ts.toList ts'.toList) (ops : Array Oper) : yielded ops ts = yielded ops ts' := by
  funext j
  unfold yielded
  cases (ops[j]?).bind (·.dst) with
  | none => rfl
  | some d =>
    simp only [Option.bind_some]
    rcases h.toA (i := d) with ⟨a1, a2⟩ | ⟨v, v', a1, a2, hv⟩
    · rw [a1, a2]
    · rw [a1, a2]
      cases hv <;> rfl
theorem FR.eval (S : X.Set Fb wr sp) {f f' : Frame} (k : FR X Fb wr ρ f f') : EvR X.F Fb ρ f.eval f'.eval := by
  refine ⟨fun x hx => ?_, fun v => rfl⟩
  cases x with
  | tmp t => exact k.tmps.agetD t
  | const v => exact flat_refl S.ok.fb v hx
  | global g => exact Bool.noConfusion hx
  | func f => exact .func (S.ok.fb _ hx) .nil

theorem exitTo_R {id : Nat} : ∀ {l l' : List Item}, IsR X Fb wr ρ l l' → (exitTo id l = none ∧ exitTo id l' = none) ∨ ∃ k k', exitTo id l = some k ∧ exitTo id l' = some k' ∧ IsR X Fb wr ρ k k'
  | _, _, .nil => .inl ⟨rfl, rfl⟩
  | _, _, .cons a b => by
    cases a with
    | inBlock i =>
      unfold exitTo
      split
      · exact .inr ⟨_, _, rfl, rfl, b⟩
      · exact exitTo_R b
    | code c => unfold exitTo; exact exitTo_R b
    | inLoop c => unfold exitTo; exact exitTo_R b
    | inRegion td c => unfold exitTo; exact exitTo_R b
    | inRangeFunc r => unfold exitTo; exact exitTo_R b
    | endRangeFunc r => unfold exitTo; exact exitTo_R b
    | beginRound => unfold exitTo; exact exitTo_R b

/-- a value is handed to the frame below. -/
theorem return_sim {base base' up up' : List Frame} {fr fr' : Frame} {w w' : World} {ρ0 : Rel} {w0 w0' : World} (hf : FR X Fb wr ρ fr fr') (hu : FsR X Fb wr ρ up up') (hw : WR X ρ w w') (hn : NB w) (hB : Bot (fr :: up)) (hne : up ≠ [])
    (he : Eff X ρ0 ρ w0' w' w0) (hsz : w0.heap.size ≤ w.heap.size) {v v' : Value} (hv : VR X.F ρ v v') (m m' : Bool) {es es' : Array Event} (hev : ∀ e ∈ es', EvOK X ρ e) {s1 : GStep}
    (hstep : GStep.after es (doReturn X.P m fr (up ++ base) none v w) = s1) :
    Out X Fb wr sp base base' ρ0 w0 w0' (GStep.after es' (doReturn X.P' m' fr' (up' ++ base') none v' w')) s1 := by
  cases hu with
  | nil => exact absurd rfl hne
  | cons a b =>
    rename_i c c' up up'
    unfold doReturn at hstep ⊢
    simp only [List.cons_append] at hstep ⊢
    rw [hf.kind] at hstep
    rw [hf.kind']
    simp only [GStep.after] at hstep ⊢
    cases hstep
    exact .nice rfl (a.finish hv) b hw he hsz (fun e h => hev e (by simpa using h)) hn (hB.tail.swap (finish_round _ _))
end

end Go.Proofs.YtkpekiajdlolnabGreat.Sim

/-
  THE SIMULATION, eleventh text: ONE STEP OF THE GOROUTINE, whole.
-/
namespace Go.Proofs.YtkpekiajdlolnabGreat.Sim
open Go Go.Conc

section
variable {X : Cx} {Fb : FuncId → Bool} {wr : Bool} {sp : FuncId → Bool} {ρ : Rel}

/-- a frame that goes on with other things to do. -/
theorem to_sim {base base' up up' : List Frame} {fr fr' : Frame} {w w' : World} (hf : FR X Fb wr ρ fr fr') (hu : FsR X Fb wr ρ up up') (hw : WR X ρ w w') (hn : NB w) (hB : Bot (fr :: up)) {td td' : List Item} (ht : IsR X Fb wr ρ td td')
    {s1 : GStep} (hstep : GStep.go { frame := { fr with todo := td }, callers := up ++ base, status := .running, dying := none } w = s1) :
    Out X Fb wr sp base base' ρ w w' (.go { frame := { fr' with todo := td' }, callers := up' ++ base', status := .running, dying := none } w') s1 := by
  cases hstep
  exact .nice rfl (hf.with ht) hu hw (Eff.refl ..) (Nat.le_refl _) (by simp) hn (hB.swap (by rfl))

/-- a reckoning of whatever kind, ahead of what is made of its result. -/
theorem res_ok {α β : Type} {s : Sem α} {s' : Sem β} {Q : Rel → α → β → Prop} (hs : SS X ρ s s' Q) {w w' : World} (hw : WR X ρ w w') {a : α} {wx : World} {es : Array Event} (hr : s.runT X.P w #[] = (.ok a wx, es)) :
    ∃ ρ1 a' w1' es1, s'.runT X.P' w' #[] = (.ok a' w1', es1) ∧ WR X ρ1 wx w1' ∧ Eff X ρ ρ1 w' w1' w ∧ w.heap.size ≤ wx.heap.size ∧ (∀ e ∈ es1, EvOK X ρ1 e) ∧ Q ρ1 a a' ∧ KC w wx := by
  have : s.run X.P w = .ok a wx := by rw [← Sem.runT_fst X.P s w #[], hr]
  obtain ⟨ρ1, a', w1', es1, h1, h⟩ := hs.1 w w' a wx #[] hw this
  exact ⟨ρ1, a', w1', es1, by rw [h1]; simp, h⟩
theorem res_halt {α β : Type} {s : Sem α} {s' : Sem β} {Q : Rel → α → β → Prop} (hs : SS X ρ s s' Q) {w w' : World} (hw : WR X ρ w w') {h : Halt} {wx : World} {es : Array Event} (hr : s.runT X.P w #[] = (.halt h wx, es)) : Mild h ∧ KC w wx := by
  have : s.run X.P w = .halt h wx := by rw [← Sem.runT_fst X.P s w #[], hr]
  exact hs.2 w w' h wx hw this
/-- a frame that is left. -/
def leaveG (P : Program) (m : Bool) (fr : Frame) (cs : List Frame) (jump : Option Code) (w : World) : GStep :=
  match fr.roundOf with
  | none => if jump matches none | some .ret then .go { frame := { fr with mode := .returning }, callers := cs, status := .running, dying := none } w else .ended (.stuck "exit, goto: no such block or label" (fr.pos P)) w
  | some l =>
    let (r, es) := (Instr.endRound l jump).runT P w #[]
    GStep.after (seen P fr.fn es) <| match r with
    | .ok v w => doReturn P m fr cs none v w
    | .halt _ w => .ended (.stuck "range over a function: no such loop" (fr.pos P)) w

theorem leave_sim {base base' up up' : List Frame} {fr fr' : Frame} {w w' : World} (hf : FR X Fb wr ρ fr fr') (hu : FsR X Fb wr ρ up up') (hw : WR X ρ w w') (hn : NB w) (hB : Bot (fr :: up)) (jump : Option Code) (hj : ∀ c, jump = some c → X.C c) (m m' : Bool)
    {s1 : GStep} (hstep : leaveG X.P m fr (up ++ base) jump w = s1) :
    Out X Fb wr sp base base' ρ w w' (leaveG X.P' m' fr' (up' ++ base') jump w') s1 := by
  have hr0 := hf.round
  unfold leaveG at hstep ⊢
  rcases hr0 with ⟨e1, e2⟩ | ⟨l, l', e1, e2, hl⟩
  · rw [e1] at hstep
    rw [e2]
    dsimp only at hstep ⊢
    have yes : ∀ {gs : GStep}, gs = GStep.go { frame := { fr' with mode := .returning }, callers := up' ++ base', status := .running, dying := none } w' → GStep.go { frame := { fr with mode := .returning }, callers := up ++ base, status := .running, dying := none } w = s1 → Out X Fb wr sp base base' ρ w w' gs s1 := by
      intro gs h1 h2
      subst h1
      cases h2
      exact .nice rfl ⟨hf.fn, hf.same, hf.tmps, hf.todo, hf.defers, rfl, .inr rfl, hf.kind, hf.kind', hf.round⟩ hu hw (Eff.refl ..) (Nat.le_refl _) (by simp) hn (hB.swap (by rfl))
    rw [e2] at yes
    rw [e1] at yes
    cases jump with
    | none => exact yes rfl hstep
    | some c => cases c <;> first | exact yes rfl hstep | (change GStep.ended _ _ = _ at hstep; cases hstep; exact .ended)
  · have hne : up ≠ [] := by
      rintro rfl
      have := hB fr (by simp)
      rw [e1] at this; cases this
    rw [e1] at hstep
    rw [e2]
    dsimp only at hstep ⊢
    cases hr : (Instr.endRound l jump).runT X.P w #[] with
    | mk r es0 =>
      rw [hr] at hstep
      cases r with
      | halt h wx => cases hstep; exact .ended
      | ok v wx =>
        obtain ⟨ρ1, v', w1', es1, h1, h2, h3, h4, h5, h6, h7⟩ := res_ok (SS.endRound hl jump hj) hw hr
        rw [h1]
        exact return_sim (hf.mono h3.le) (hu.mono h3.le) h2 trivial hB hne h3 h4 h6 m m' (fun e he => h5 e (seen_sub he)) hstep

theorem all_ops {ops : Array Oper} {i : Nat} {o : Oper} (h : ops.toList.all (okOp X.P X.P' Fb wr) = true) (hi : ops[i]? = some o) : okOp X.P X.P' Fb wr o = true := by
  rw [List.all_eq_true] at h
  exact h o (Array.mem_toList_iff.2 (Array.mem_of_getElem? hi))

theorem stepG_run (P : Program) (m : Bool) (fr : Frame) (cs : List Frame) (w : World) (hm : fr.mode = .run) : stepG P m (G fr cs) w = stepG.exec P m true fr cs none w := by
  simp only [stepG, G, hm]
theorem stepG_ret (P : Program) (m : Bool) (fr : Frame) (cs : List Frame) (w : World) (hm : fr.mode = .returning) : stepG P m (G fr cs) w = unwind P m fr cs none w := by
  simp only [stepG, G, hm]
theorem follows_eq (S : X.Set Fb wr sp) (d : Departure) : X.P'.follows d = X.P.follows d := by
  show X.P'.toTables.follows d = X.P.toTables.follows d
  rw [S.ok.tables]

theorem DsR.append {a a' b b' : List Deferred} (ha : DsR ρ a a') (hb : DsR ρ b b') : DsR ρ (a ++ b) (a' ++ b') := by
  induction a generalizing a' with
  | nil => cases ha; exact hb
  | cons x a ih => cases ha with | cons p q => exact .cons p (ih q)
theorem Out.of_after {base base' : List Frame} {w w' : World} {r' : GStep} {es0 : Array Event} {s : GStep} (h : Out X Fb wr sp base base' ρ w w' r' s) : Out X Fb wr sp base base' ρ w w' r' (GStep.after es0 s) := by
  cases h with
  | nice e h1 h2 h3 h4 h5 h6 h7 h8 => exact .nice e h1 h2 h3 h4 h5 h6 h7 h8
  | special k1 k2 e h0 h1 h2 h3 h4 h5 h6 h7 h8 => exact .special k1 k2 e h0 h1 h2 h3 h4 h5 h6 h7 h8
  | panic h1 h2 => exact .panic h1 h2
  | ended => exact .ended
theorem SS.iterate (H : X.Ok Fb) {f : Operand} {ev ev' : Operand → Value} (hc : ∀ v, ev (.const v) = v) (hc' : ∀ v, ev' (.const v) = v) (he : VR X.F ρ (ev f) (ev' f)) {l l' : Nat} (hl : ρ l l') :
    SS X ρ (do let d ← resolve ev { callee := .value f, args := #[.const (.func (.yield l) #[] #[])], argTypes := #[] } 0; invoke d.target d.args)
      (do let d ← resolve ev' { callee := .value f, args := #[.const (.func (.yield l') #[] #[])], argTypes := #[] } 0; invoke d.target d.args) (fun ρ1 n n' => NR X ρ1 n n') := by
  unfold resolve
  dsimp only
  have hargs : VsR X.F ρ (#[Operand.const (.func (.yield l) #[] #[])].map ev).toList (#[Operand.const (.func (.yield l') #[] #[])].map ev').toList := by
    simp only [List.map_toArray, List.map_cons, List.map_nil, hc, hc']
    exact .cons (.yield hl) .nil
  generalize ev f = vf at he
  generalize ev' f = vf' at he
  cases he with
  | func hF hcs =>
    simp only [Deferred.ofValue]
    refine SS.bind (Q := fun ρ1 d d' => ∃ g cs cs' ars ars', d = ⟨.fn (.func g) cs, ars⟩ ∧ d' = ⟨.fn (.func g) cs', ars'⟩ ∧ X.F g ∧ VsR X.F ρ1 cs.toList cs'.toList ∧ VsR X.F ρ1 ars.toList ars'.toList) (SS.pure ⟨_, _, _, _, _, rfl, rfl, hF, hcs, by simpa using hargs⟩) fun ρ1 d d' le hd => ?_
    obtain ⟨g, cs, cs', ars, ars', rfl, rfl, h1, h2, h3⟩ := hd
    exact SS.callFunc H g h1 (h3.aappend h2)
  | yield r =>
    simp only [Deferred.ofValue]
    refine SS.bind (Q := fun ρ1 d d' => ∃ l l' cs cs' ars ars', d = ⟨.fn (.yield l) cs, ars⟩ ∧ d' = ⟨.fn (.yield l') cs', ars'⟩ ∧ ρ1 l l' ∧ VsR X.F ρ1 ars.toList ars'.toList) (SS.pure ⟨_, _, _, _, _, _, rfl, rfl, r, by simpa using hargs⟩) fun ρ1 d d' le hd => ?_
    obtain ⟨l, l', cs, cs', ars, ars', rfl, rfl, h1, h3⟩ := hd
    exact SS.yieldCall h1 h3
  | nilFunc =>
    exact SS.dies (Dies.runtimePanic (α := Next) .nilDeref)
  | _ => exact SS.dies (Dies.bindL (Dies.stuck _))

theorem exec_sim (S : X.Set Fb wr sp) {base base' up up' : List Frame} {fr fr' : Frame} {w w' : World} (hf : FR X Fb wr ρ fr fr') (hu : FsR X Fb wr ρ up up') (hw : WR X ρ w w') (hn : NB w) (hB : Bot (fr :: up)) (hm : fr.mode = .run) (m m' : Bool)
    {s1 : GStep} (hstep : stepG.exec X.P m true fr (up ++ base) none w = s1) :
    Out X Fb wr sp base base' ρ w w' (stepG.exec X.P' m' true fr' (up' ++ base') none w') s1 := by
  obtain ⟨fn, tmps, todo, defers, mode, kind, ro⟩ := fr
  obtain ⟨fn', tmps', todo', defers', mode', kind', ro'⟩ := fr'
  have ht : IsR X Fb wr ρ todo todo' := hf.todo
  obtain rfl : fn' = fn := hf.fn
  have hco : ∀ c, codeOk X.P X.P' Fb wr c = true → X.C c := fun c h => (S.c c).2 h
  unfold stepG.exec at hstep ⊢
  cases ht with
  | nil => exact leave_sim hf hu hw hn hB none (fun c e => by cases e) m m' hstep
  | @cons i i' l l' a b =>
    cases a with
    | inBlock id => exact to_sim hf hu hw hn hB b hstep
    | inLoop c => exact to_sim hf hu hw hn hB (.cons (.code c) (.cons (.inLoop c) b)) hstep
    | inRangeFunc r => cases hstep; exact .ended
    | beginRound =>
      simp only at hstep ⊢
      refine apply_sim S hf hu hw hn hm hB ?_ hstep
      have hr0 : OptR ρ ro ro' := hf.round
      rcases hr0 with ⟨rfl, rfl⟩ | ⟨l, l', rfl, rfl, hl⟩
      · exact SS.dies (Dies.bindL (Dies.stuck _))
      · exact (SS.beginRound hl).bind fun _ _ _ _ _ => SS.pure .skip
    | @endRangeFunc l l' r =>
      simp only at hstep ⊢
      cases hr : (Instr.endLoop l).runT X.P w #[] with
      | mk r0 es0 =>
        rw [hr] at hstep
        cases r0 with
        | halt h wx =>
          obtain ⟨hmild, hnb⟩ := res_halt (SS.endLoop r) hw hr
          cases h with
          | panic v =>
            have hm' : mode = .run := hm
            subst hm'
            cases hstep
            exact .panic (hf.marked hw hnb) (FsR.marked hw hnb hu)
          | _ => cases hstep; exact .ended
        | ok j wx =>
          obtain ⟨ρ1, j', w1', es1, h1, h2, h3, h4, h5, ⟨h6, hC⟩, h7⟩ := res_ok (SS.endLoop r) hw hr
          rw [h1]
          subst h6
          simp only [GStep.after] at hstep ⊢
          cases hstep
          refine .nice rfl ((hf.mono h3.le).with ?_) (hu.mono h3.le) h2 h3 h4 (fun e he => h5 e (seen_sub (by simpa using he))) trivial (hB.swap (by rfl))
          cases j with
          | none => exact b.mono h3.le
          | some c => exact .cons (.code ((S.c c).1 (hC c rfl))) (b.mono h3.le)
    | @inRegion ops td c =>
      cases td with
      | nil => exact to_sim hf hu hw hn hB b hstep
      | cons i td =>
        dsimp only at hstep ⊢
        rw [← yielded_R (ts := tmps) (ts' := tmps') hf.tmps]
        by_cases hwant : ((ops[i]?).map (Region.wanted · (yielded ops tmps))).getD false = true
        · rw [if_pos hwant] at hstep ⊢
          cases ho : ops[i]? with
          | none => rw [ho] at hwant; cases hwant
          | some o =>
            unfold stepG.oper at hstep ⊢
            have op1 : (⟨fn', tmps, .inRegion ops (i :: td) :: l, defers, mode, kind, ro⟩ : Frame).oper? = some o := ho
            have op2 : (⟨fn', tmps', .inRegion ops (i :: td) :: l', defers', mode', kind', ro'⟩ : Frame).oper? = some o := ho
            rw [op1] at hstep
            rw [op2]
            have hok := all_ops c ho
            have nd : ∀ c, o.op ≠ .defer c := fun c e => by
              unfold okOp at hok
              rw [e] at hok
              simp at hok
            dsimp only at hstep ⊢
            split at hstep
            · rename_i e; exact absurd e (nd _)
            · split
              · rename_i e; exact absurd e (nd _)
              · exact apply_sim S hf hu hw hn hm hB (SS.execOp S.ok wr S.wrs o hok _ _ (hf.eval S)) hstep
        · rw [if_neg hwant] at hstep ⊢
          cases hstep
          exact .nice rfl (hf.finish undefR) hu hw (Eff.refl ..) (Nat.le_refl _) (by simp) hn (hB.swap (finish_round _ _))
    | @code c hc =>
      cases c with
      | skip => exact to_sim hf hu hw hn hB b hstep
      | ret =>
        exact leave_sim hf hu hw hn hB (some .ret) (fun c e => by cases e; exact hco _ rfl) m m' hstep
      | seq x y =>
        simp only [codeOk, Bool.and_eq_true] at hc
        exact to_sim hf hu hw hn hB (.cons (.code hc.1) (.cons (.code hc.2) b)) hstep
      | cond x y z =>
        simp only [codeOk, Bool.and_eq_true] at hc
        have he := (hf.eval S).1 x hc.1
        dsimp only at hstep ⊢
        generalize Frame.eval _ x = v at he hstep
        generalize Frame.eval _ x = v' at he ⊢
        cases he with
        | bool t =>
          refine to_sim hf hu hw hn hB (.cons (.code ?_) b) hstep
          cases t
          · exact hc.2.2
          · exact hc.2.1
        | _ => cases hstep; exact .ended
      | block id c => exact to_sim hf hu hw hn hB (.cons (.code (c := c) hc) (.cons (.inBlock id) b)) hstep
      | loop c => exact to_sim hf hu hw hn hB (.cons (.code (c := c) hc) (.cons (.inLoop (c := c) hc) b)) hstep
      | exit id =>
        dsimp only at hstep ⊢
        rcases exitTo_R (id := id) b with ⟨e1, e2⟩ | ⟨k, k', e1, e2, hk⟩
        · rw [e1] at hstep
          rw [e2]
          exact leave_sim hf hu hw hn hB (some (.exit id)) (fun c e => by cases e; exact hco _ rfl) m m' hstep
        · rw [e1] at hstep
          rw [e2]
          exact to_sim hf hu hw hn hB hk hstep
      | region id ops draw =>
        simp only at hstep ⊢
        cases draw with
        | false => exact to_sim hf hu hw hn hB (.cons (.inRegion _ hc) b) hstep
        | true =>
          simp only [Bool.not_true, Bool.false_eq_true, if_false] at hstep ⊢
          rw [follows_eq S]
          cases hr : (choose (.order fn' id)).run X.P w with
          | halt h wx => rw [hr] at hstep; cases hstep; exact .ended
          | ok t wx =>
            rw [hr] at hstep
            obtain ⟨ρ1, t', w1', es1, h1, h2, h3, h4, h5, h6, h7⟩ := (SS.choose (X := X) (ρ := ρ) (.order fn' id)).1 w w' t wx #[] hw hr
            subst h6
            have hr2 : (choose (.order fn' id)).run X.P' w' = .ok t w1' := by rw [← Sem.runT_fst X.P' _ w' #[], h1]
            rw [hr2]
            simp only at hstep ⊢
            cases hstep
            exact .nice rfl ((hf.mono h3.le).with (.cons (.inRegion _ hc) (b.mono h3.le))) (hu.mono h3.le) h2 h3 h4 (by simp) trivial (hB.swap (by rfl))
      | rangeFunc f params assign body =>
        simp only [codeOk, Bool.and_eq_true] at hc
        obtain ⟨hc1, hc2, hc3⟩ := hc
        simp only at hstep ⊢
        have hG : X.G fn' := hf.same
        cases hr : (Instr.enterLoop fn' tmps params assign body ro).runT X.P w #[] with
        | mk r0 es0 =>
          rw [hr] at hstep
          cases r0 with
          | halt h wx => cases hstep; exact .ended
          | ok p wx =>
            obtain ⟨l1, mark⟩ := p
            obtain ⟨ρ1, p', w1', es1, h1, h2, h3, h4, h5, ⟨h6, h6'⟩, h7⟩ := res_ok (SS.enterLoop hG hf.tmps params (hco _ hc2) (hco _ hc3) hf.round) hw hr
            obtain ⟨l1', mark'⟩ := p'
            rw [h1]
            dsimp only at hstep h6 h6' ⊢
            have hf1 := hf.mono h3.le
            have hf2 : FR X Fb wr ρ1 ⟨fn', tmps, .inRangeFunc l1 :: l, mark ++ defers, mode, kind, ro⟩ ⟨fn', tmps', .inRangeFunc l1' :: l', mark' ++ defers', mode', kind', ro'⟩ :=
              ⟨hf1.fn, hf1.same, hf1.tmps, .cons (.inRangeFunc h6) (b.mono h3.le), h6'.append hf1.defers, hf1.mode, hf1.run, hf1.kind, hf1.kind', hf1.round⟩
            subst hstep
            exact Out.of_after (Out.after (apply_sim S hf2 (hu.mono h3.le) h2 trivial hm (hB.swap (by rfl)) (SS.iterate S.ok (fun _ => rfl) (fun _ => rfl) ((hf2.eval S).1 f hc1) h6) rfl) h3 h4 (fun e he => h5 e (seen_sub he)))
      | _ => simp [codeOk] at hc
end

end Go.Proofs.YtkpekiajdlolnabGreat.Sim

/-
  THE SIMULATION, twelfth text: A STEP OF ANY KIND; a panic in a lone run comes to no good.
-/
namespace Go.Proofs.YtkpekiajdlolnabGreat.Sim
open Go Go.Conc

section
variable {X : Cx} {Fb : FuncId → Bool} {wr : Bool} {sp : FuncId → Bool} {ρ : Rel}

theorem unwind_sim (S : X.Set Fb wr sp) {base base' up up' : List Frame} {fr fr' : Frame} {w w' : World} (hf : FR X Fb wr ρ fr fr') (hu : FsR X Fb wr ρ up up') (hw : WR X ρ w w') (hn : NB w) (hB : Bot (fr :: up)) (hm : fr.mode = .returning) (hgo : fr.defers ≠ [] ∨ up ≠ []) (m m' : Bool)
    {s1 : GStep} (hstep : unwind X.P m fr (up ++ base) none w = s1) :
    Out X Fb wr sp base base' ρ w w' (unwind X.P' m' fr' (up' ++ base') none w') s1 := by
  obtain ⟨fn, tmps, todo, defers, mode, kind, ro⟩ := fr
  obtain ⟨fn', tmps', todo', defers', mode', kind', ro'⟩ := fr'
  obtain rfl : fn' = fn := hf.fn
  obtain rfl : mode = .returning := hm
  obtain rfl : mode' = .returning := hf.mode
  have hd : DsR ρ defers defers' := hf.defers
  cases hd with
  | @cons r r' l l' a b =>
    unfold unwind at hstep ⊢
    dsimp only at hstep ⊢
    cases hr : (Instr.takeDeferred r).runT X.P w #[] with
    | mk r0 es0 =>
      rw [hr] at hstep
      cases r0 with
      | halt h wx => cases hstep; exact .ended
      | ok v wx =>
        obtain ⟨ρ1, v', w1', es1, h1, h2, h3, h4, h5, ⟨h6, h6'⟩, h7⟩ := res_ok (SS.takeDeferred a) hw hr
        rw [h1]
        subst h6; subst h6'
        cases hstep
        have hf1 := hf.mono h3.le
        exact .nice rfl ⟨hf1.fn, hf1.same, hf1.tmps, hf1.todo, b.mono h3.le, rfl, .inr rfl, hf1.kind, hf1.kind', hf1.round⟩ (hu.mono h3.le) h2 h3 h4 (fun e he => h5 e (seen_sub (by simpa using he))) trivial (hB.swap (by rfl))
  | nil =>
    have hne : up ≠ [] := hgo.resolve_left (fun h => h rfl)
    obtain ⟨f, q1, q2⟩ := hf.same
    have q1 : X.P.funcs[fn']? = some f := q1
    have q2 : X.P'.funcs[fn']? = some f := q2
    unfold unwind at hstep ⊢
    dsimp only at hstep ⊢
    rw [q1] at hstep
    rw [q2]
    dsimp only at hstep ⊢
    cases hr : (results f tmps).runT X.P w #[] with
    | mk r0 es0 =>
      rw [hr] at hstep
      cases r0 with
      | halt h wx => cases h <;> (cases hstep; exact .ended)
      | ok v wx =>
        obtain ⟨ρ1, v', w1', es1, h1, h2, h3, h4, h5, h6, h7⟩ := res_ok (SS.results S.ok hf.tmps) hw hr
        rw [h1]
        exact return_sim (hf.mono h3.le) (hu.mono h3.le) h2 trivial hB hne h3 h4 h6 m m' (fun e he => h5 e (seen_sub he)) hstep

/-- ONE STEP OF ANY KIND. -/
theorem sim_step (S : X.Set Fb wr sp) {base base' up up' : List Frame} {fr fr' : Frame} {w w' : World} (hf : FR X Fb wr ρ fr fr') (hu : FsR X Fb wr ρ up up') (hw : WR X ρ w w') (hn : NB w) (hB : Bot (fr :: up)) (hgo : fr.mode = .run ∨ fr.defers ≠ [] ∨ up ≠ []) (m m' : Bool) :
    Out X Fb wr sp base base' ρ w w' (stepG X.P' m' (G fr' (up' ++ base')) w') (stepG X.P m (G fr (up ++ base)) w) := by
  rcases hf.run with hm | hm
  · rw [stepG_run _ _ _ _ _ hm, stepG_run _ _ _ _ _ (hf.mode.trans hm)]
    exact exec_sim S hf hu hw hn hB hm m m' rfl
  · rw [stepG_ret _ _ _ _ _ hm, stepG_ret _ _ _ _ _ (hf.mode.trans hm)]
    exact unwind_sim S hf hu hw hn hB hm (hgo.resolve_left (by rw [hm]; intro h; cases h)) m m' rfl

/-! ### a run that must come to its end -/
/-- WHATEVER THE TAPE HOLDS FROM HERE ON, the lone run of this one goroutine comes, step by step, to a state in which Q holds. -/
inductive LMust (P : Program) (Q : Frame → List Frame → World → Prop) : Frame → List Frame → World → Prop
  | done {fr : Frame} {cs : List Frame} {w : World} : Q fr cs w → LMust P Q fr cs w
  | step {fr : Frame} {cs : List Frame} {w : World} (nf : Tape → Frame) (nc : Tape → List Frame) (nw : Tape → World) (ne : Tape → Array Event) :
      (∀ τ : Tape, (∀ i q, i < w.drawn → τ i q = w.tape i q) → stepG P true (G fr cs) { w with tape := τ } = .go (G (nf τ) (nc τ)) (nw τ) (ne τ)) →
      (∀ τ : Tape, (∀ i q, i < w.drawn → τ i q = w.tape i q) → LMust P Q (nf τ) (nc τ) (nw τ)) → LMust P Q fr cs w

/-- The caller that ends the machine where a panic comes to it. -/
def c0 : Frame := { (default : Frame) with defers := [{ target := .nil, args := #[] }], mode := .panicking [] }

theorem stepG_panic (P : Program) (m : Bool) (fr : Frame) (cs : List Frame) (w : World) {ch : List PanicEntry} (hm : fr.mode = .panicking ch) : stepG P m (G fr cs) w = unwind P m fr cs none w := by
  simp only [stepG, G, hm]
theorem raise_mode (f : Frame) (ch : List PanicEntry) : ∃ ch', (f.raise ch).mode = .panicking ch' := by
  unfold Frame.raise
  split <;> exact ⟨_, rfl⟩
theorem raise_defers (f : Frame) (ch : List PanicEntry) : (f.raise ch).defers = f.defers := by
  unfold Frame.raise
  split <;> rfl

theorem take_marked {P : Program} {w : World} {r : Nat} (hn : Clean w r) {v : List Deferred} {w1 : World} {es : Array Event} (h : (Instr.takeDeferred r).runT P w #[] = (.ok v w1, es)) : v = [] ∧ KC w w1 := by
  have h2 : (Instr.takeDeferred r).run P w = .ok v w1 := by rw [← Sem.runT_fst P _ w #[], h]
  unfold Instr.takeDeferred at h2
  simp only [bind, Sem.bind, Go.getObj, Sem.run] at h2
  cases ho : w.heap[r]? with
  | none => rw [ho] at h2; cases h2
  | some o =>
    rw [ho] at h2
    cases o with
    | deferred l =>
      cases l with
      | none => cases h2
      | some l =>
        cases l with
        | cons d ds => exact absurd ho (hn d ds)
        | nil =>
          simp only [Sem.bind, Go.setObj, Sem.run, ho, pure] at h2
          cases h2
          refine ⟨rfl, fun r' hc d ds => ?_⟩
          show (w.heap.setIfInBounds r (.deferred none))[r']? ≠ _
          rw [Array.getElem?_setIfInBounds]
          split
          · split <;> (intro e; cases e)
          · exact hc d ds
    | _ => cases h2

theorem must_no_panic {P : Program} {Q : Frame → List Frame → World → Prop} (hQ : ∀ fr cs w, Q fr cs w → ∀ ch, fr.mode ≠ .panicking ch) : ∀ {fr : Frame} {cs : List Frame} {w : World}, LMust P Q fr cs w →
    NB w → (∃ ch, fr.mode = .panicking ch) → ((∃ up, cs = up ++ [c0] ∧ Marked w fr ∧ ∀ f ∈ up, Marked w f) ∨ (∃ d ds, fr.defers = d :: ds ∧ d.target = .nil)) → False := by
  intro fr cs w h
  induction h with
  | done hq => intro _ ⟨ch, e⟩ _; exact hQ _ _ _ hq ch e
  | @step fr cs w nf nc nw ne hstep hmust ih =>
    intro hn ⟨ch, hm⟩ hshape
    have hs := hstep w.tape (fun _ _ _ => rfl)
    have ih := ih w.tape (fun _ _ _ => rfl)
    have hw : ({ w with tape := w.tape } : World) = w := rfl
    rw [hw, stepG_panic _ _ _ _ _ hm] at hs
    generalize nf w.tape = fr1, nc w.tape = cs1, nw w.tape = w1, ne w.tape = es at hs ih
    unfold unwind at hs
    rcases hshape with ⟨up, rfl, hk, hup⟩ | ⟨d, ds, hd, ht⟩
    · cases hd : fr.defers with
      | cons d ds =>
        obtain ⟨r, hr, hcl⟩ := hk d (by rw [hd]; simp)
        obtain ⟨t, ars⟩ := d
        obtain rfl : t = .collected r := hr
        rw [hd] at hs
        dsimp only at hs
        cases hrun : (Instr.takeDeferred r).runT P w #[] with
        | mk r0 es0 =>
          rw [hrun] at hs
          cases r0 with
          | halt h wx => cases hs
          | ok v wx =>
            obtain ⟨rfl, hn'⟩ := take_marked hcl hrun
            cases hs
            exact ih trivial ⟨ch, hm⟩ (.inl ⟨up, rfl, fun d' hd' => let ⟨r', x, y⟩ := hk d' (by rw [hd]; exact List.mem_cons_of_mem _ (by simpa using hd')); ⟨r', x, hn' r' y⟩, fun f hf => (hup f hf).keep hn'⟩)
      | nil =>
        rw [hd, hm] at hs
        dsimp only at hs
        split at hs
        · cases hs
        · cases up with
          | nil =>
            cases hs
            exact ih hn (raise_mode _ _) (.inr ⟨_, [], raise_defers _ _, rfl⟩)
          | cons f up =>
            cases hs
            refine ih hn (raise_mode _ _) (.inl ⟨up, rfl, ?_, fun g hg => hup g (by simp [hg])⟩)
            intro d' hd'
            rw [raise_defers] at hd'
            exact hup f (by simp) d' hd'
    · obtain ⟨t, ars⟩ := d
      obtain rfl : t = .nil := ht
      rw [hd] at hs
      unfold callDeferred at hs
      rw [hm] at hs
      cases hs
end

end Go.Proofs.YtkpekiajdlolnabGreat.Sim

/-
  THE SIMULATION, thirteenth text: a reckoning reads the tape only where it draws.
-/
namespace Go.Proofs.YtkpekiajdlolnabGreat.Sim
open Go Go.Conc

/-- the world with another tape. -/
def re (w : World) (τ : Tape) : World := { w with tape := τ }
def rw0 {α : Type} : Result α → World | .ok _ w => w | .halt _ w => w
def rre {α : Type} (τ : Tape) : Result α → Result α | .ok a w => .ok a (re w τ) | .halt h w => .halt h (re w τ)

theorem seen_re (P : Program) (w : World) (τ : Tape) (a : Addr) (u : TypeId) (k : Addr) (b : Bool) : (re w τ).seen P a u k b = w.seen P a u k b := rfl
theorem viewLoad_re (P : Program) (w : World) (τ : Tape) (a : Addr) (u : TypeId) (k : Addr) (b : Bool) : (re w τ).viewLoad P a u k b = w.viewLoad P a u k b := rfl
theorem farLoad_re (P : Program) (w : World) (τ : Tape) (a : Addr) (b : Bool) : (re w τ).farLoad P a b = w.farLoad P a b := rfl
theorem bind_two {A : Type} {w : World} {τ : Tape} (fo : Except String A) (g g' : A → Except String (World × List Addr)) (h : ∀ c, ∃ h l, g c = .ok ({ w with heap := h }, l) ∧ g' c = .ok (re { w with heap := h } τ, l)) :
    (∃ e, (fo >>= g) = .error e ∧ (fo >>= g') = .error e) ∨ ∃ h l, (fo >>= g) = .ok ({ w with heap := h }, l) ∧ (fo >>= g') = .ok (re { w with heap := h } τ, l) := by
  cases fo with
  | error e => exact .inl ⟨e, rfl, rfl⟩
  | ok c => exact .inr (h c)
theorem viewStore_re (P : Program) (w : World) (τ : Tape) (a : Addr) (u : TypeId) (k : Addr) (v : Value) (b : Bool) :
    (∃ e, w.viewStore P a u k v b = .error e ∧ (re w τ).viewStore P a u k v b = .error e) ∨
    ∃ h l, w.viewStore P a u k v b = .ok ({ w with heap := h }, l) ∧ (re w τ).viewStore P a u k v b = .ok (re { w with heap := h } τ, l) := by
  unfold World.viewStore
  rw [seen_re]
  generalize w.seen P a u k b = r
  generalize tight P P.depth u = t
  cases t with
  | false => exact .inl ⟨_, rfl, rfl⟩
  | true =>
    cases r with
    | error e => exact .inl ⟨_, rfl, rfl⟩
    | ok r =>
      obtain ⟨c, e, frozen, first, like, cells⟩ := r
      generalize v.bytes? = vb
      cases vb with
      | none => exact .inl ⟨_, rfl, rfl⟩
      | some bs =>
        dsimp only
        by_cases hb : some bs.length ≠ like.bytes?.map (·.length)
        · left
          refine ⟨_, if_pos hb, ?_⟩
          exact if_pos hb
        · rcases bind_two (cells.foldlM (init := c) _) (fun c => pure ({ w with heap := w.heap.setIfInBounds a.block (.cells c e frozen) }, cells.map fun (i, _, _) => { block := a.block, off := i }))
            (fun c => pure ({ re w τ with heap := w.heap.setIfInBounds a.block (.cells c e frozen) }, cells.map fun (i, _, _) => { block := a.block, off := i })) (w := w) (τ := τ) (fun c => ⟨_, _, rfl, rfl⟩) with ⟨e1, h1, h2⟩ | ⟨h, l, h1, h2⟩
          · exact .inl ⟨e1, (if_neg hb).trans h1, (if_neg hb).trans h2⟩
          · exact .inr ⟨h, l, (if_neg hb).trans h1, (if_neg hb).trans h2⟩
theorem farStore_re (P : Program) (w : World) (τ : Tape) (a : Addr) (v : Value) (b : Bool) :
    (∃ e, w.farStore P a v b = .error e ∧ (re w τ).farStore P a v b = .error e) ∨
    ∃ h l, w.farStore P a v b = .ok ({ w with heap := h }, l) ∧ (re w τ).farStore P a v b = .ok (re { w with heap := h } τ, l) := by
  unfold World.farStore
  have hh : (re w τ).heap[a.block]? = w.heap[a.block]? := rfl
  have hno : (re w τ).noCell a "store: no such cell" = w.noCell a "store: no such cell" := rfl
  rw [hh, hno]
  cases ho : w.heap[a.block]? with
  | none => exact .inl ⟨_, rfl, rfl⟩
  | some o =>
    cases o with
    | view at_ u =>
      dsimp only
      rcases viewStore_re P w τ at_ u a v b with ⟨e, e1, e2⟩ | ⟨h, l, e1, e2⟩
      · exact .inl ⟨.unsupported (.unsafePointer e), by rw [e1], by rw [e2]⟩
      · exact .inr ⟨h, l, by rw [e1], by rw [e2]⟩
    | _ => exact .inl ⟨_, rfl, rfl⟩

def storeT {α : Type} (P : Program) (m : Mode) (a : Addr) (v : Value) (k : Sem α) (w : World) (es : Array Event) : Result α × Array Event :=
  match w.cell? a with
  | some _ =>
    if w.frozen? a then (.halt (.unsupported (.unsafePointer "a write to bytes that a string shares")) w, es)
    else k.runT P (w.setCell a v) (es.push ⟨.cell a, true, m == .atomic⟩)
  | none => match w.farStore P a v (m == .atomic) with
    | .ok (w, touched) => k.runT P w (es ++ touched.toArray.map (⟨.cell ·, true, m == .atomic⟩))
    | .error h => (.halt h w, es)
theorem keep {α : Type} (P : Program) (s : Sem α) : ∀ (w : World) (es : Array Event) (e : Event), e ∈ es → e ∈ (s.runT P w es).2 := by
  induction s with
  | pure a => intro w es e h; exact h
  | halt x => intro w es e h; exact h
  | load m a k ih =>
    intro w es e h
    unfold Sem.runT
    cases w.cell? a with
    | some v => exact ih v w _ e (Array.mem_push_of_mem _ h)
    | none =>
      dsimp only
      cases w.farLoad P a (m == .atomic) with
      | error x => exact h
      | ok r => exact ih r.1 w _ e (Array.mem_append_left _ h)
  | store m a v k ih =>
    intro w es e h
    have main : e ∈ (storeT P m a v k w es).2 := by
      unfold storeT
      cases w.cell? a with
      | some v0 =>
        dsimp only
        split
        · exact h
        · exact ih _ _ e (Array.mem_push_of_mem _ h)
      | none =>
        dsimp only
        cases w.farStore P a v (m == .atomic) with
        | error x => exact h
        | ok r => exact ih r.1 _ e (Array.mem_append_left _ h)
    cases v <;> first | exact main | exact h
  | new o k ih => intro w es e h; exact ih _ _ _ e h
  | shape r k ih => intro w es e h; exact ih _ _ _ e h
  | freeze a n k ih => intro w es e h; exact ih _ _ e h
  | frozen a k ih => intro w es e h; exact ih _ _ _ e h
  | getObj r k ih =>
    intro w es e h
    unfold Sem.runT
    cases w.heap[r]? with
    | none => exact h
    | some o => cases o <;> first | exact ih _ _ _ e (Array.mem_push_of_mem _ h) | exact h
  | setObj r o k ih =>
    intro w es e h
    unfold Sem.runT
    cases w.heap[r]? with
    | none => exact h
    | some o => cases o <;> first | exact ih _ _ e (Array.mem_push_of_mem _ h) | exact h
  | choose q k ih =>
    intro w es e h
    unfold Sem.runT
    split
    · exact ih _ _ _ e h
    · exact ih _ _ _ e h
  | sys c k ih => intro w es e h; exact ih _ _ _ e (Array.mem_push_of_mem _ h)
  | program k ih => intro w es e h; exact ih _ _ _ e h
  | mark m k ih => intro w es e h; exact ih _ _ e (Array.mem_push_of_mem _ h)

theorem store_local {α : Type} (P : Program) (m : Mode) (a : Addr) (v : Value) (k : Sem α) (ih : ∀ (w : World) (es : Array Event), (∀ e ∈ (k.runT P w es).2, e.loc ≠ .output) →
    w.drawn ≤ (rw0 (k.runT P w es).1).drawn ∧ (rw0 (k.runT P w es).1).tape = w.tape ∧
    ∀ τ, (∀ i q, i < (rw0 (k.runT P w es).1).drawn → τ i q = w.tape i q) → k.runT P (re w τ) es = (rre τ (k.runT P w es).1, (k.runT P w es).2)) (w : World) (es : Array Event) (hno : ∀ e ∈ (storeT P m a v k w es).2, e.loc ≠ .output) :
    w.drawn ≤ (rw0 (storeT P m a v k w es).1).drawn ∧ (rw0 (storeT P m a v k w es).1).tape = w.tape ∧
    ∀ τ, (∀ i q, i < (rw0 (storeT P m a v k w es).1).drawn → τ i q = w.tape i q) → storeT P m a v k (re w τ) es = (rre τ (storeT P m a v k w es).1, (storeT P m a v k w es).2) := by
  unfold storeT at hno ⊢
  have hc : ∀ τ, (re w τ).cell? a = w.cell? a := fun _ => rfl
  have hf : ∀ τ, (re w τ).frozen? a = w.frozen? a := fun _ => rfl
  simp only [hc, hf]
  cases hq : w.cell? a with
  | some v0 =>
    rw [hq] at hno
    dsimp only at hno ⊢
    cases hq2 : w.frozen? a with
    | true => exact ⟨Nat.le_refl _, rfl, fun τ _ => rfl⟩
    | false => rw [hq2] at hno; exact ih (w.setCell a v) _ hno
  | none =>
    rw [hq] at hno
    dsimp only at hno ⊢
    rcases farStore_re P w w.tape a v (m == .atomic) with ⟨e, e1, _⟩ | ⟨h, l, e1, _⟩
    · have e2 : ∀ τ, (re w τ).farStore P a v (m == .atomic) = .error e := fun τ => by
        rcases farStore_re P w τ a v (m == .atomic) with ⟨e', e3, e4⟩ | ⟨h, l, e3, e4⟩
        · rw [e1] at e3; cases e3; exact e4
        · rw [e1] at e3; cases e3
      simp only [e1, e2]
      exact ⟨Nat.le_refl _, rfl, fun τ _ => rfl⟩
    · have e2 : ∀ τ, (re w τ).farStore P a v (m == .atomic) = .ok (re { w with heap := h } τ, l) := fun τ => by
        rcases farStore_re P w τ a v (m == .atomic) with ⟨e', e3, e4⟩ | ⟨h', l', e3, e4⟩
        · rw [e1] at e3; cases e3
        · rw [e1] at e3; cases e3; exact e4
      rw [e1] at hno
      simp only [e1, e2]
      exact ih { w with heap := h } _ hno

theorem run_local {α : Type} (P : Program) : ∀ (s : Sem α) (w : World) (es : Array Event), (∀ e ∈ (s.runT P w es).2, e.loc ≠ .output) →
    w.drawn ≤ (rw0 (s.runT P w es).1).drawn ∧ (rw0 (s.runT P w es).1).tape = w.tape ∧
    ∀ τ, (∀ i q, i < (rw0 (s.runT P w es).1).drawn → τ i q = w.tape i q) → s.runT P (re w τ) es = (rre τ (s.runT P w es).1, (s.runT P w es).2) := by
  intro s
  induction s with
  | pure a => intro w es _; exact ⟨Nat.le_refl _, rfl, fun τ _ => rfl⟩
  | halt h => intro w es _; exact ⟨Nat.le_refl _, rfl, fun τ _ => rfl⟩
  | load m a k ih =>
    intro w es hno
    unfold Sem.runT at hno ⊢
    have hc' : ∀ τ, (re w τ).cell? a = w.cell? a := fun _ => rfl
    simp only [hc', farLoad_re]
    cases hc : w.cell? a with
    | some v => rw [hc] at hno; exact ih v w _ hno
    | none =>
      rw [hc] at hno
      dsimp only at hno ⊢
      cases hf : w.farLoad P a (m == .atomic) with
      | error h => exact ⟨Nat.le_refl _, rfl, fun τ _ => rfl⟩
      | ok r => rw [hf] at hno; exact ih r.1 w _ hno
  | store m a v k ih => cases v <;> first | (intro w es hno; exact ⟨Nat.le_refl _, rfl, fun τ _ => rfl⟩) | exact store_local P m a _ k ih
  | new o k ih => intro w es hno; exact ih _ { w with heap := w.heap.push o } es hno
  | shape r k ih => intro w es hno; exact ih _ w es hno
  | freeze a n k ih =>
    intro w es hno
    have h := ih (w.freeze a n) es hno
    have e : ∀ τ, (re w τ).freeze a n = re (w.freeze a n) τ := fun τ => by unfold World.freeze; split <;> rfl
    have e1 : (w.freeze a n).drawn = w.drawn := by unfold World.freeze; split <;> rfl
    have e2 : (w.freeze a n).tape = w.tape := by unfold World.freeze; split <;> rfl
    rw [e1, e2] at h
    unfold Sem.runT
    simp only [e]
    exact h
  | frozen a k ih => intro w es hno; exact ih _ w es hno
  | getObj r k ih =>
    intro w es hno
    unfold Sem.runT at hno ⊢
    have hc : ∀ τ, (re w τ).heap[r]? = w.heap[r]? := fun _ => rfl
    simp only [hc]
    cases ho : w.heap[r]? with
    | none => exact ⟨Nat.le_refl _, rfl, fun τ _ => rfl⟩
    | some o => rw [ho] at hno; cases o <;> first | exact ⟨Nat.le_refl _, rfl, fun τ _ => rfl⟩ | exact ih _ w _ hno
  | setObj r o k ih =>
    intro w es hno
    unfold Sem.runT at hno ⊢
    have hc : ∀ τ, (re w τ).heap[r]? = w.heap[r]? := fun _ => rfl
    simp only [hc]
    cases ho : w.heap[r]? with
    | none => exact ⟨Nat.le_refl _, rfl, fun τ _ => rfl⟩
    | some o' => rw [ho] at hno; cases o' <;> first | exact ⟨Nat.le_refl _, rfl, fun τ _ => rfl⟩ | exact ih { w with heap := w.heap.setIfInBounds r o } _ hno
  | choose q k ih =>
    intro w es hno
    unfold Sem.runT at hno ⊢
    by_cases hf : q.forced = true
    · simp only [hf, if_true] at hno ⊢
      exact ih 0 w es hno
    · simp only [hf, Bool.false_eq_true, if_false] at hno ⊢
      have h := ih (q.cut (w.tape w.drawn q)) { w with drawn := w.drawn + 1 } es hno
      refine ⟨Nat.le_of_lt h.1, h.2.1, fun τ hτ => ?_⟩
      have e := h.2.2 τ (fun i q hi => hτ i q hi)
      have e0 : (re w τ).tape (re w τ).drawn q = w.tape w.drawn q := hτ _ _ h.1
      rw [e0]
      exact e
  | sys c k ih =>
    intro w es hno
    unfold Sem.runT at hno
    exact absurd rfl (hno ⟨.output, true, false⟩ (keep P _ _ _ _ (by simp)))
  | program k ih => intro w es hno; exact ih P w es hno
  | mark m k ih => intro w es hno; exact ih w _ hno
end Go.Proofs.YtkpekiajdlolnabGreat.Sim

/-
  THE SIMULATION, fourteenth text: a step reads the tape only where it draws.
-/
namespace Go.Proofs.YtkpekiajdlolnabGreat.Sim
open Go Go.Conc

def LocS (f : World → GStep) (w : World) : Prop := ∀ g1 w1 es, f w = .go g1 w1 es → w.drawn ≤ w1.drawn ∧ w1.tape = w.tape ∧ ∀ τ, (∀ i q, i < w1.drawn → τ i q = w.tape i q) → f (re w τ) = .go g1 (re w1 τ) es
theorem LocS.go {g : Goroutine} {es : Array Event} {w : World} : LocS (fun w => .go g w es) w := by
  intro g1 w1 es h
  cases h
  exact ⟨Nat.le_refl _, rfl, fun τ _ => rfl⟩
theorem LocS.ended {f : World → GStep} {w : World} {o : Outcome} {w2 : World} {es : Array Event} (h : f w = .ended o w2 es) : LocS f w := fun g1 w1 es e => by rw [h] at e; cases e

section
variable {X : Cx} {Fb : FuncId → Bool} {wr : Bool} {sp : FuncId → Bool} {ρ : Rel}

theorem SS.loc {α β : Type} {s : Sem α} {s' : Sem β} {Q : Rel → α → β → Prop} (h : SS X ρ s s' Q) {w w' : World} (hw : WR X ρ w w') {r : Result α} {es : Array Event} (hr : s.runT X.P w #[] = (r, es)) :
    w.drawn ≤ (rw0 r).drawn ∧ (rw0 r).tape = w.tape ∧ ∀ τ, (∀ i q, i < (rw0 r).drawn → τ i q = w.tape i q) → s.runT X.P (re w τ) #[] = (rre τ r, es) := by
  have := run_local X.P s w #[] (fun e he => (h.3 w w' hw #[] e he).resolve_left (by simp))
  rw [hr] at this
  exact this

theorem apply_loc {cs : List Frame} {fr : Frame} {w w' : World} (hw : WR X ρ w w') (hm : fr.mode = .run) (hk : fr.kind = .normal)
    {s s' : Sem Next} (hs : SS X ρ s s' (fun ρ1 n n' => NR X ρ1 n n')) : LocS (fun w => stepG.apply X.P true fr cs none s w) w := by
  have e1 : (fr.kind == CallKind.early) = false := by rw [hk]; rfl
  have raised : ∀ vs, fr.raise vs = { fr with mode := .panicking vs } := fun vs => by unfold Frame.raise; rw [hm]
  intro g1 w1 es hgo
  rcases hr : s.runT X.P w #[] with ⟨r, es0⟩
  obtain ⟨d1, d2, d3⟩ := hs.loc hw hr
  unfold stepG.apply at hgo ⊢
  simp only [if_true] at hgo ⊢
  rw [hr] at hgo
  cases r with
  | halt h wx =>
    have hr' : s.run X.P w = .halt h wx := by rw [← Sem.runT_fst X.P s w #[], hr]
    obtain ⟨hmild, -⟩ := hs.2 w w' h wx hw hr'
    cases h with
    | panic v =>
      simp only [GStep.after] at hgo
      cases hgo
      refine ⟨d1, d2, fun τ hτ => ?_⟩
      rw [d3 τ hτ]
      rfl
    | unsupported u =>
      cases u with
      | initOrder b => exact hmild.elim
      | _ => simp only [GStep.after] at hgo; cases hgo
    | stuck m => simp only [GStep.after] at hgo; cases hgo
    | _ => exact hmild.elim
  | ok n wx =>
    have hr' : s.run X.P w = .ok n wx := by rw [← Sem.runT_fst X.P s w #[], hr]
    obtain ⟨ρ1, n', w1', es1, h1, h2, h3, h4, h5, h6, h7⟩ := hs.1 w w' n wx #[] hw hr'
    cases h6 <;>
    · simp only [GStep.after] at hgo
      cases hgo
      refine ⟨d1, d2, fun τ hτ => ?_⟩
      rw [d3 τ hτ]
      rfl

theorem leave_loc {cs : List Frame} {fr fr' : Frame} {w w' : World} (hw : WR X ρ w w') (hr0 : OptR ρ fr.roundOf fr'.roundOf) (hk : fr.kind = .normal) (jump : Option Code) (hj : ∀ c, jump = some c → X.C c) (m : Bool) (hne : fr.roundOf.isSome → cs ≠ []) :
    LocS (fun w => leaveG X.P m fr cs jump w) w := by
  rcases hr0 with ⟨e1, e2⟩ | ⟨l, l', e1, e2, hl⟩
  · unfold leaveG
    rw [e1]
    dsimp only
    cases jump with
    | none => exact LocS.go
    | some c => cases c <;> first | exact LocS.go | exact LocS.ended rfl
  · intro g1 w1 es hgo
    unfold leaveG at hgo ⊢
    rw [e1] at hgo ⊢
    dsimp only at hgo ⊢
    rcases hr : (Instr.endRound l jump).runT X.P w #[] with ⟨r, es0⟩
    obtain ⟨d1, d2, d3⟩ := (SS.endRound hl jump hj).loc hw hr
    rw [hr] at hgo
    cases r with
    | halt h wx => cases hgo
    | ok v wx =>
      cases cs with
      | nil => exact absurd rfl (hne (by rw [e1]; rfl))
      | cons c cs =>
        unfold doReturn at hgo
        simp only [hk, GStep.after] at hgo
        cases hgo
        refine ⟨d1, d2, fun τ hτ => ?_⟩
        rw [d3 τ hτ]
        simp only [rre, doReturn, hk, GStep.after]

theorem after_inv {es0 : Array Event} {s : GStep} {g1 : Goroutine} {w1 : World} {es : Array Event} (h : GStep.after es0 s = .go g1 w1 es) : ∃ es2, s = .go g1 w1 es2 ∧ GStep.go g1 w1 es = GStep.after es0 (.go g1 w1 es2) := by
  cases s <;> first | (cases h; exact ⟨_, rfl, rfl⟩) | cases h

theorem exec_loc (S : X.Set Fb wr sp) {cs : List Frame} {fr fr' : Frame} {w w' : World} (hf : FR X Fb wr ρ fr fr') (hw : WR X ρ w w') (hm : fr.mode = .run) (m : Bool) (hne : fr.roundOf.isSome → cs ≠ []) :
    LocS (fun w => stepG.exec X.P m true fr cs none w) w := by
  obtain ⟨fn, tmps, todo, defers, mode, kind, ro⟩ := fr
  obtain ⟨fn', tmps', todo', defers', mode', kind', ro'⟩ := fr'
  have ht : IsR X Fb wr ρ todo todo' := hf.todo
  obtain rfl : fn' = fn := hf.fn
  have hk : kind = .normal := hf.kind
  have hco : ∀ c, codeOk X.P X.P' Fb wr c = true → X.C c := fun c h => (S.c c).2 h
  unfold stepG.exec
  cases ht with
  | nil => exact leave_loc hw hf.round hk none (fun c e => by cases e) m hne
  | @cons i i' l l' a b =>
    cases a with
    | inBlock id => exact LocS.go
    | inLoop c => exact LocS.go
    | inRangeFunc r => exact LocS.ended rfl
    | beginRound =>
      refine apply_loc (fr := ⟨fn', tmps, _, defers, mode, kind, ro⟩) (s' := do (ro'.elim (Go.stuck "beginRound: no round") Instr.beginRound : Sem Unit); Pure.pure .skip) hw hm hk ?_
      have hr0 : OptR ρ ro ro' := hf.round
      rcases hr0 with ⟨rfl, rfl⟩ | ⟨l, l', rfl, rfl, hl⟩
      · exact SS.dies (Dies.bindL (Dies.stuck _))
      · exact (SS.beginRound hl).bind fun _ _ _ _ _ => SS.pure .skip
    | @endRangeFunc l l' r =>
      intro g1 w1 es hgo
      dsimp only at hgo ⊢
      rcases hr : (Instr.endLoop l).runT X.P w #[] with ⟨r0, es0⟩
      obtain ⟨d1, d2, d3⟩ := (SS.endLoop r).loc hw hr
      rw [hr] at hgo
      cases r0 with
      | halt h wx =>
        cases h with
        | panic v =>
          cases hgo
          refine ⟨d1, d2, fun τ hτ => ?_⟩
          rw [d3 τ hτ]
          rfl
        | _ => cases hgo
      | ok j wx =>
        cases hgo
        refine ⟨d1, d2, fun τ hτ => ?_⟩
        rw [d3 τ hτ]
        rfl
    | @inRegion ops td c =>
      cases td with
      | nil => exact LocS.go
      | cons i td =>
        dsimp only
        by_cases hwant : ((ops[i]?).map (Region.wanted · (yielded ops tmps))).getD false = true
        · simp only [if_pos hwant]
          cases ho : ops[i]? with
          | none => rw [ho] at hwant; cases hwant
          | some o =>
            have hok := all_ops c ho
            have nd : ∀ c, o.op ≠ .defer c := fun c e => by
              unfold okOp at hok
              rw [e] at hok
              simp at hok
            have op1 : (⟨fn', tmps, .inRegion ops (i :: td) :: l, defers, mode, kind, ro⟩ : Frame).oper? = some o := ho
            have e : (fun w => stepG.oper X.P true (⟨fn', tmps, .inRegion ops (i :: td) :: l, defers, mode, kind, ro⟩ : Frame) cs none w) =
                fun w => stepG.apply X.P true (⟨fn', tmps, .inRegion ops (i :: td) :: l, defers, mode, kind, ro⟩ : Frame) cs none (execOp (Frame.eval (⟨fn', tmps, .inRegion ops (i :: td) :: l, defers, mode, kind, ro⟩ : Frame)) o) w := by
              funext w
              unfold stepG.oper
              rw [op1]
              dsimp only
              split
              · rename_i e; exact absurd e (nd _)
              · rfl
            rw [e]
            exact apply_loc hw hm hk (SS.execOp S.ok wr S.wrs o hok _ _ (hf.eval S))
        · simp only [if_neg hwant]
          exact LocS.go
    | @code c hc =>
      cases c with
      | skip => exact LocS.go
      | ret => exact leave_loc (fr := ⟨fn', tmps, _, defers, mode, kind, ro⟩) hw hf.round hk (some .ret) (fun c e => by cases e; exact hco _ rfl) m hne
      | seq x y => exact LocS.go
      | cond x y z =>
        dsimp only
        generalize Frame.eval _ x = v
        cases v <;> first | exact LocS.go | exact LocS.ended rfl
      | block id c => exact LocS.go
      | loop c => exact LocS.go
      | exit id =>
        dsimp only
        cases exitTo id l with
        | none => exact leave_loc (fr := ⟨fn', tmps, _, defers, mode, kind, ro⟩) hw hf.round hk (some (.exit id)) (fun c e => by cases e; exact hco _ rfl) m hne
        | some k => exact LocS.go
      | region id ops draw =>
        cases draw with
        | false => exact LocS.go
        | true =>
          intro g1 w1 es hgo
          dsimp only at hgo ⊢
          simp only [Bool.not_true, Bool.false_eq_true, if_false] at hgo ⊢
          have := (SS.choose (X := X) (ρ := ρ) (.order fn' id))
          rcases hr : (choose (.order fn' id)).runT X.P w #[] with ⟨r0, es0⟩
          obtain ⟨d1, d2, d3⟩ := this.loc hw hr
          have hr' : (choose (.order fn' id)).run X.P w = r0 := by rw [← Sem.runT_fst X.P _ w #[], hr]
          rw [hr'] at hgo
          cases r0 with
          | halt h wx => cases hgo
          | ok t wx =>
            cases hgo
            refine ⟨d1, d2, fun τ hτ => ?_⟩
            have : (choose (.order fn' id)).run X.P (re w τ) = .ok t (re w1 τ) := by rw [← Sem.runT_fst X.P _ _ #[], d3 τ hτ]; rfl
            rw [this]
      | rangeFunc f params assign body =>
        simp only [codeOk, Bool.and_eq_true] at hc
        obtain ⟨hc1, hc2, hc3⟩ := hc
        have hG : X.G fn' := hf.same
        intro g1 w1 es hgo
        dsimp only at hgo ⊢
        rcases hr : (Instr.enterLoop fn' tmps params assign body ro).runT X.P w #[] with ⟨r0, es0⟩
        have hen := SS.enterLoop hG hf.tmps params (hco _ hc2) (hco _ hc3) hf.round
        obtain ⟨d1, d2, d3⟩ := hen.loc hw hr
        rw [hr] at hgo
        cases r0 with
        | halt h wx => cases hgo
        | ok p wx =>
          obtain ⟨l1, mark⟩ := p
          obtain ⟨ρ1, p', w1', es1, h1, h2, h3, h4, h5, ⟨h6, h6'⟩, h7⟩ := res_ok hen hw hr
          obtain ⟨l1', mark'⟩ := p'
          dsimp only at h6 h6' hgo
          have hf1 := hf.mono h3.le
          have hf2 : FR X Fb wr ρ1 ⟨fn', tmps, .inRangeFunc l1 :: l, mark ++ defers, mode, kind, ro⟩ ⟨fn', tmps', .inRangeFunc l1' :: l', mark' ++ defers', mode', kind', ro'⟩ :=
            ⟨hf1.fn, hf1.same, hf1.tmps, .cons (.inRangeFunc h6) (b.mono h3.le), h6'.append hf1.defers, hf1.mode, hf1.run, hf1.kind, hf1.kind', hf1.round⟩
          have ap := apply_loc (cs := cs) (fr := ⟨fn', tmps, .inRangeFunc l1 :: l, mark ++ defers, mode, kind, ro⟩) h2 hm hk (SS.iterate S.ok (fun _ => rfl) (fun _ => rfl) ((hf2.eval S).1 f hc1) h6)
          obtain ⟨es2, k1, k2⟩ := after_inv hgo
          obtain ⟨q1, q2, q3⟩ := ap g1 w1 es2 k1
          refine ⟨Nat.le_trans d1 q1, q2.trans d2, fun τ hτ => ?_⟩
          have d3 := d3 τ (fun i q hi => hτ i q (Nat.lt_of_lt_of_le hi q1))
          have q3 := q3 τ (fun i q hi => (hτ i q hi).trans (by rw [show wx.tape = w.tape from d2]))
          rw [d3]
          dsimp only [rre]
          have k3 : es = seen X.P fn' es0 ++ es2 := by cases k2; rfl
          rw [k3]
          exact congrArg (GStep.after _) q3
      | _ => simp [codeOk] at hc

theorem unwind_loc (S : X.Set Fb wr sp) {cs : List Frame} {fr fr' : Frame} {w w' : World} (hf : FR X Fb wr ρ fr fr') (hw : WR X ρ w w') (hm : fr.mode = .returning) (m : Bool) (hne : fr.defers ≠ [] ∨ cs ≠ []) :
    LocS (fun w => unwind X.P m fr cs none w) w := by
  obtain ⟨fn, tmps, todo, defers, mode, kind, ro⟩ := fr
  obtain ⟨fn', tmps', todo', defers', mode', kind', ro'⟩ := fr'
  obtain rfl : fn' = fn := hf.fn
  obtain rfl : mode = .returning := hm
  obtain rfl : kind = .normal := hf.kind
  have hd : DsR ρ defers defers' := hf.defers
  intro g1 w1 es hgo
  cases hd with
  | @cons r r' l l' a b =>
    unfold unwind at hgo ⊢
    dsimp only at hgo ⊢
    rcases hr : (Instr.takeDeferred r).runT X.P w #[] with ⟨r0, es0⟩
    obtain ⟨d1, d2, d3⟩ := (SS.takeDeferred a).loc hw hr
    rw [hr] at hgo
    cases r0 with
    | halt h wx => cases hgo
    | ok v wx =>
      cases hgo
      refine ⟨d1, d2, fun τ hτ => ?_⟩
      rw [d3 τ hτ]
      rfl
  | nil =>
    have hne : cs ≠ [] := hne.resolve_left (fun h => h rfl)
    obtain ⟨f, q1, q2⟩ := hf.same
    have q1 : X.P.funcs[fn']? = some f := q1
    unfold unwind at hgo ⊢
    dsimp only at hgo ⊢
    rw [q1] at hgo ⊢
    dsimp only at hgo ⊢
    rcases hr : (results f tmps).runT X.P w #[] with ⟨r0, es0⟩
    obtain ⟨d1, d2, d3⟩ := (SS.results S.ok hf.tmps).loc hw hr
    rw [hr] at hgo
    cases r0 with
    | halt h wx => cases h <;> cases hgo
    | ok v wx =>
      cases cs with
      | nil => exact absurd rfl hne
      | cons c cs =>
        cases hgo
        refine ⟨d1, d2, fun τ hτ => ?_⟩
        rw [d3 τ hτ]
        rfl

theorem step_loc (S : X.Set Fb wr sp) {cs : List Frame} {fr fr' : Frame} {w w' : World} (hf : FR X Fb wr ρ fr fr') (hw : WR X ρ w w') (m : Bool) (hne : cs ≠ []) :
    LocS (fun w => stepG X.P m (G fr cs) w) w := by
  rcases hf.run with hm | hm
  · have e : (fun w => stepG X.P m (G fr cs) w) = fun w => stepG.exec X.P m true fr cs none w := funext fun w => stepG_run _ _ _ _ _ hm
    rw [e]
    exact exec_loc S hf hw hm m (fun _ => hne)
  · have e : (fun w => stepG X.P m (G fr cs) w) = fun w => unwind X.P m fr cs none w := funext fun w => stepG_ret _ _ _ _ _ hm
    rw [e]
    exact unwind_loc S hf hw hm m (.inr hne)
end

end Go.Proofs.YtkpekiajdlolnabGreat.Sim

/-
  THE SIMULATION, fifteenth text: FROM "UNDER EVERY TAPE THE LONE RUN COMES THERE" TO "IT MUST COME THERE" (bar induction: the tape that would never come there is laid together draw by draw).
-/
namespace Go.Proofs.YtkpekiajdlolnabGreat.Sim
open Go Go.Conc

inductive LRun (P : Program) (Q : Frame → List Frame → World → Prop) : Frame → List Frame → World → Prop
  | done {fr : Frame} {cs : List Frame} {w : World} : Q fr cs w → LRun P Q fr cs w
  | step {fr : Frame} {cs : List Frame} {w : World} {fr1 : Frame} {cs1 : List Frame} {w1 : World} {es : Array Event} : stepG P true (G fr cs) w = .go (G fr1 cs1) w1 es → LRun P Q fr1 cs1 w1 → LRun P Q fr cs w

def Panicky (fr : Frame) (cs : List Frame) (w : World) : Prop := (∃ ch, fr.mode = .panicking ch) ∧ ((∃ up, cs = up ++ [c0] ∧ Marked w fr ∧ ∀ f ∈ up, Marked w f) ∨ (∃ d ds, fr.defers = d :: ds ∧ d.target = .nil))

theorem panic_step {P : Program} {fr : Frame} {cs : List Frame} {w : World} (hn : NB w) (h : Panicky fr cs w) :
    (∃ o w1 es, stepG P true (G fr cs) w = .ended o w1 es) ∨ ∃ fr1 cs1 w1 es, stepG P true (G fr cs) w = .go (G fr1 cs1) w1 es ∧ NB w1 ∧ Panicky fr1 cs1 w1 := by
  obtain ⟨⟨ch, hm⟩, hshape⟩ := h
  rw [stepG_panic _ _ _ _ _ hm]
  unfold unwind
  rcases hshape with ⟨up, rfl, hk, hup⟩ | ⟨d, ds, hd, ht⟩
  · cases hd : fr.defers with
    | cons d ds =>
      obtain ⟨r, hr, hcl⟩ := hk d (by rw [hd]; simp)
      obtain ⟨t, ars⟩ := d
      obtain rfl : t = .collected r := hr
      dsimp only
      cases hrun : (Instr.takeDeferred r).runT P w #[] with
      | mk r0 es0 =>
        cases r0 with
        | halt h wx => exact .inl ⟨_, _, _, rfl⟩
        | ok v wx =>
          obtain ⟨rfl, hn'⟩ := take_marked hcl hrun
          exact .inr ⟨_, _, _, _, rfl, trivial, ⟨ch, hm⟩, .inl ⟨up, rfl, fun d' hd' => let ⟨r', x, y⟩ := hk d' (by rw [hd]; exact List.mem_cons_of_mem _ (by simpa using hd')); ⟨r', x, hn' r' y⟩, fun f hf => (hup f hf).keep hn'⟩⟩
    | nil =>
      rw [hm]
      dsimp only
      split
      · exact .inl ⟨_, _, _, rfl⟩
      · cases up with
        | nil => exact .inr ⟨_, _, _, _, rfl, hn, raise_mode _ _, .inr ⟨_, [], raise_defers _ _, rfl⟩⟩
        | cons f up =>
          refine .inr ⟨_, _, _, _, rfl, hn, raise_mode _ _, .inl ⟨up, rfl, ?_, fun g hg => hup g (by simp [hg])⟩⟩
          intro d' hd'
          rw [raise_defers] at hd'
          exact hup f (by simp) d' hd'
  · obtain ⟨t, ars⟩ := d
    obtain rfl : t = .nil := ht
    rw [hd]
    dsimp only
    unfold callDeferred
    rw [hm]
    exact .inl ⟨_, _, _, rfl⟩

theorem run_no_panic {P : Program} {Q : Frame → List Frame → World → Prop} (hQ : ∀ fr cs w, Q fr cs w → ∀ ch, fr.mode ≠ .panicking ch) {fr : Frame} {cs : List Frame} {w : World} (h : LRun P Q fr cs w) : NB w → Panicky fr cs w → False := by
  induction h with
  | done hq => intro _ ⟨⟨ch, e⟩, _⟩; exact hQ _ _ _ hq ch e
  | step hs _ ih =>
    intro hn hp
    rcases panic_step hn hp with ⟨o, w1, es, e⟩ | ⟨fr1, cs1, w1, es, e, hn1, hp1⟩
    · rw [hs] at e; cases e
    · rw [hs] at e; cases e; exact ih hn1 hp1
theorem LMust.run {P : Program} {Q : Frame → List Frame → World → Prop} {fr : Frame} {cs : List Frame} {w : World} (h : LMust P Q fr cs w) : LRun P Q fr cs w := by
  induction h with
  | done hq => exact .done hq
  | step nf nc nw ne hs _ ih => exact .step (hs _ (fun _ _ _ => rfl)) (ih _ (fun _ _ _ => rfl))

section
variable {X : Cx} {Fb : FuncId → Bool} {wr : Bool}

/-- a state of the class. -/
def Inv (X : Cx) (Fb : FuncId → Bool) (wr : Bool) (fr : Frame) (cs : List Frame) (w : World) : Prop :=
  ∃ ρ fr' up up' w', cs = up ++ [c0] ∧ FR X Fb wr ρ fr fr' ∧ FsR X Fb wr ρ up up' ∧ WR X ρ w w' ∧ NB w ∧ Bot (fr :: up)

theorem WR.re {ρ : Rel} {w w' : World} (h : WR X ρ w w') (τ : Tape) : WR X ρ (re w τ) { w' with tape := τ, drawn := w.drawn } :=
  ⟨h.fn, h.inj, h.heap, fun _ _ => rfl, h.sh⟩
theorem Inv.re {fr : Frame} {cs : List Frame} {w : World} (h : Inv X Fb wr fr cs w) (τ : Tape) : Inv X Fb wr fr cs (re w τ) := by
  obtain ⟨ρ, fr', up, up', w', h1, h2, h3, h4, h5, h6⟩ := h
  exact ⟨ρ, fr', up, up', _, h1, h2, h3, h4.re τ, h5, h6⟩
theorem Inv.loc (S : X.Set Fb wr (fun _ => false)) {fr : Frame} {cs : List Frame} {w : World} (h : Inv X Fb wr fr cs w) : LocS (fun w => stepG X.P true (G fr cs) w) w := by
  obtain ⟨ρ, fr', up, up', w', rfl, h2, h3, h4, h5, h6⟩ := h
  exact step_loc S h2 h4 true (by simp)
theorem Inv.step (S : X.Set Fb wr (fun _ => false)) {fr : Frame} {cs : List Frame} {w : World} (h : Inv X Fb wr fr cs w) (hgo : fr.mode = .run ∨ fr.defers ≠ [] ∨ cs ≠ [c0]) :
    (∃ o w1 es, stepG X.P true (G fr cs) w = .ended o w1 es) ∨ ∃ fr1 cs1 w1 es, stepG X.P true (G fr cs) w = .go (G fr1 cs1) w1 es ∧ (Inv X Fb wr fr1 cs1 w1 ∨ (NB w1 ∧ Panicky fr1 cs1 w1)) := by
  obtain ⟨ρ, fr', up, up', w', rfl, h2, h3, h4, h5, h6⟩ := h
  have out := sim_step S (base := [c0]) (base' := [c0]) h2 h3 h4 h5 h6 (hgo.imp id (Or.imp id fun h e => h (by rw [e]; rfl))) true true
  generalize hs : stepG X.P true (G fr (up ++ [c0])) w = s at out ⊢
  cases out with
  | nice e h1 h2 h3 h4 h5 h6 h7 h8 => exact .inr ⟨_, _, _, _, rfl, .inl ⟨_, _, _, _, _, rfl, h1, h2, h3, h7, h8⟩⟩
  | special k1 k2 => cases k2
  | panic h1 h2 => exact .inr ⟨_, _, _, _, rfl, .inr ⟨trivial, ⟨_, rfl⟩, .inl ⟨_, rfl, h1, h2⟩⟩⟩
  | ended => exact .inl ⟨_, _, _, rfl⟩

abbrev St := Frame × List Frame × World
def Agree (w : World) (τ : Tape) : Prop := ∀ i q, i < w.drawn → τ i q = w.tape i q

theorem end_shape (S : X.Set Fb wr (fun _ => false)) {fr : Frame} {cs : List Frame} {w : World} (h : Inv X Fb wr fr cs w) (hgo : ¬ (fr.mode = .run ∨ fr.defers ≠ [] ∨ cs ≠ [c0])) :
    (∃ o w1 es, stepG X.P true (G fr cs) w = .ended o w1 es) ∨ ∃ fr1 cs1 w1 es, stepG X.P true (G fr cs) w = .go (G fr1 cs1) w1 es ∧ NB w1 ∧ Panicky fr1 cs1 w1 := by
  obtain ⟨ρ, fr', up, up', w', e0, hf, h3, hw, hn, h6⟩ := h
  obtain ⟨fn, tmps, todo, defers, mode, kind, ro⟩ := fr
  obtain rfl : kind = .normal := hf.kind
  have hcs : cs = [c0] := Classical.byContradiction fun h => hgo (.inr (.inr h))
  have hd : defers = [] := Classical.byContradiction fun h => hgo (.inr (.inl h))
  have hm : mode = .returning := hf.run.resolve_left fun h => hgo (.inl h)
  subst hcs; subst hd; subst hm
  rw [stepG_ret _ _ _ _ _ rfl]
  obtain ⟨f, q1, q2⟩ := hf.same
  have q1 : X.P.funcs[fn]? = some f := q1
  unfold unwind
  dsimp only
  rw [q1]
  dsimp only
  rcases hr : (results f tmps).runT X.P w #[] with ⟨r0, es0⟩
  cases r0 with
  | halt h wx => cases h <;> exact .inl ⟨_, _, _, rfl⟩
  | ok v wx =>
    obtain ⟨ρ1, v', w1', es1, h1, h2, h3, h4, h5, h6, h7⟩ := res_ok (SS.results S.ok hf.tmps) hw hr
    exact .inr ⟨_, _, _, _, rfl, trivial, ⟨[], rfl⟩, .inr ⟨_, [], rfl, rfl⟩⟩
theorem end_step (S : X.Set Fb wr (fun _ => false)) {fr : Frame} {cs : List Frame} {w : World} (h : Inv X Fb wr fr cs w) (hgo : ¬ (fr.mode = .run ∨ fr.defers ≠ [] ∨ cs ≠ [c0])) {fr1 : Frame} {cs1 : List Frame} {w1 : World} {es : Array Event}
    (hs : stepG X.P true (G fr cs) w = .go (G fr1 cs1) w1 es) : NB w1 ∧ Panicky fr1 cs1 w1 := by
  rcases end_shape S h hgo with ⟨o, w2, es2, e⟩ | ⟨fr2, cs2, w2, es2, e, h1, h2⟩
  · rw [hs] at e; cases e
  · rw [hs] at e; cases e; exact ⟨h1, h2⟩

theorem bar (S : X.Set Fb wr (fun _ => false)) {Q : Frame → List Frame → World → Prop} (hQ : ∀ fr cs w, Q fr cs w → ∀ ch, fr.mode ≠ .panicking ch)
    (hQre : ∀ fr cs w τ, Inv X Fb wr fr cs w → Agree w τ → Q fr cs (re w τ) → Q fr cs w)
    {fr : Frame} {cs : List Frame} {w : World} (hinv : Inv X Fb wr fr cs w) (hall : ∀ τ, Agree w τ → LRun X.P Q fr cs (re w τ)) : LMust X.P Q fr cs w := by
  classical
  -- a bad state
  let Bad (s : St) : Prop := Inv X Fb wr s.1 s.2.1 s.2.2 ∧ (∀ τ, Agree s.2.2 τ → LRun X.P Q s.1 s.2.1 (re s.2.2 τ)) ∧ ¬ LMust X.P Q s.1 s.2.1 s.2.2
  -- and the next
  have next : ∀ s : St, Bad s → ∃ s1 : St, Bad s1 ∧ s.2.2.drawn ≤ s1.2.2.drawn ∧ Agree s.2.2 s1.2.2.tape ∧ ∃ es, ∀ T, Agree s1.2.2 T → stepG X.P true (G s.1 s.2.1) (re s.2.2 T) = .go (G s1.1 s1.2.1) (re s1.2.2 T) es := by
    rintro ⟨fr, cs, w⟩ ⟨hi, hr, hb⟩
    dsimp only at hi hr hb ⊢
    have nq : ∀ τ, Agree w τ → ¬ Q fr cs (re w τ) := fun τ ha h => hb (.done (hQre _ _ _ τ hi ha h))
    have hgo : fr.mode = .run ∨ fr.defers ≠ [] ∨ cs ≠ [c0] := by
      by_cases h : fr.mode = .run ∨ fr.defers ≠ [] ∨ cs ≠ [c0]
      · exact h
      · have hi0 := hi
        cases hr w.tape fun _ _ _ => rfl with
        | done hq => exact absurd hq (nq _ (fun _ _ _ => rfl))
        | step hs h2 =>
          have hs : stepG X.P true (G fr cs) w = _ := hs
          obtain ⟨e, hp⟩ := end_step S hi h hs
          exact (run_no_panic hQ h2 e hp).elim
    have : ∃ τ, Agree w τ ∧ ∀ fr1 cs1 w1 es, stepG X.P true (G fr cs) (re w τ) = .go (G fr1 cs1) w1 es → ¬ LMust X.P Q fr1 cs1 w1 := by
      refine Classical.byContradiction fun hc => hb ?_
      have hc' : ∀ τ, Agree w τ → ∃ fr1 cs1 w1 es, stepG X.P true (G fr cs) (re w τ) = .go (G fr1 cs1) w1 es ∧ LMust X.P Q fr1 cs1 w1 := fun τ ha =>
        Classical.byContradiction fun hn => hc ⟨τ, ha, fun fr1 cs1 w1 es h1 h2 => hn ⟨fr1, cs1, w1, es, h1, h2⟩⟩
      refine .step (fun τ => if h : Agree w τ then (hc' τ h).choose else default) (fun τ => if h : Agree w τ then (hc' τ h).choose_spec.choose else default) (fun τ => if h : Agree w τ then (hc' τ h).choose_spec.choose_spec.choose else default)
        (fun τ => if h : Agree w τ then (hc' τ h).choose_spec.choose_spec.choose_spec.choose else default) (fun τ h => ?_) (fun τ h => ?_)
      · have h : Agree w τ := h
        rw [dif_pos h, dif_pos h, dif_pos h, dif_pos h]
        exact (hc' τ h).choose_spec.choose_spec.choose_spec.choose_spec.1
      · have h : Agree w τ := h
        rw [dif_pos h, dif_pos h, dif_pos h]
        exact (hc' τ h).choose_spec.choose_spec.choose_spec.choose_spec.2
    obtain ⟨τ, ha, hno⟩ := this
    have hloc := (hi.re τ).loc S
    rcases (hi.re τ).step S hgo with ⟨o, w1, es, e⟩ | ⟨fr1, cs1, w1, es, e, hi1⟩
    · exfalso
      cases hr τ ha with
      | done hq => exact nq τ ha hq
      | step hs _ => rw [e] at hs; cases hs
    · obtain ⟨d1, d2, d3⟩ := hloc _ _ _ e
      have key : ∀ T, Agree w1 T → stepG X.P true (G fr cs) (re w T) = .go (G fr1 cs1) (re w1 T) es := fun T hT => d3 T fun i q hi => by rw [hT i q hi, d2]
      have hr1 : ∀ T, Agree w1 T → LRun X.P Q fr1 cs1 (re w1 T) := fun T hT => by
        have hT' : Agree w T := fun i q hi => by
          rw [hT i q (Nat.lt_of_lt_of_le hi d1), d2]
          exact ha i q hi
        cases hr T hT' with
        | done hq => exact absurd hq (nq T hT')
        | step hs h2 => rw [key T hT] at hs; cases hs; exact h2
      have hrw : LRun X.P Q fr1 cs1 w1 := hr1 w1.tape fun _ _ _ => rfl
      refine ⟨⟨fr1, cs1, w1⟩, ⟨?_, hr1, hno _ _ _ _ e⟩, d1, fun i q hi => by show w1.tape i q = _; rw [d2]; exact ha i q hi, es, key⟩
      exact hi1.resolve_right fun ⟨h1, h2⟩ => run_no_panic hQ hrw h1 h2
  refine Classical.byContradiction fun hb => ?_
  have b0 : Bad (fr, cs, w) := ⟨hinv, hall, hb⟩
  let nx : { s : St // Bad s } → { s : St // Bad s } := fun s => ⟨(next s.1 s.2).choose, (next s.1 s.2).choose_spec.1⟩
  have hnx : ∀ s : { s : St // Bad s }, s.1.2.2.drawn ≤ (nx s).1.2.2.drawn ∧ Agree s.1.2.2 (nx s).1.2.2.tape ∧
      ∃ es, ∀ T, Agree (nx s).1.2.2 T → stepG X.P true (G s.1.1 s.1.2.1) (re s.1.2.2 T) = .go (G (nx s).1.1 (nx s).1.2.1) (re (nx s).1.2.2 T) es := fun s => (next s.1 s.2).choose_spec.2
  let c : Nat → { s : St // Bad s } := fun n => Nat.rec ⟨(fr, cs, w), b0⟩ (fun _ s => nx s) n
  have hnext : ∀ n, (c n).1.2.2.drawn ≤ (c (n + 1)).1.2.2.drawn ∧ Agree (c n).1.2.2 (c (n + 1)).1.2.2.tape ∧
      ∃ es, ∀ T, Agree (c (n + 1)).1.2.2 T → stepG X.P true (G (c n).1.1 (c n).1.2.1) (re (c n).1.2.2 T) = .go (G (c (n + 1)).1.1 (c (n + 1)).1.2.1) (re (c (n + 1)).1.2.2 T) es := fun n => hnx (c n)
  clear_value c
  have mono : ∀ j d, (c j).1.2.2.drawn ≤ (c (j + d)).1.2.2.drawn ∧ Agree (c j).1.2.2 (c (j + d)).1.2.2.tape := by
    intro j d
    induction d with
    | zero => exact ⟨Nat.le_refl _, fun _ _ _ => rfl⟩
    | succ d ih =>
      obtain ⟨h1, h2, -⟩ := hnext (j + d)
      exact ⟨Nat.le_trans ih.1 h1, fun i q hi => (h2 i q (Nat.lt_of_lt_of_le hi ih.1)).trans (ih.2 i q hi)⟩
  let T : Tape := fun i q => if h : ∃ k, i < (c k).1.2.2.drawn then (c h.choose).1.2.2.tape i q else 0
  have hT : ∀ k, Agree (c k).1.2.2 T := by
    intro k i q hi
    have h : ∃ k, i < (c k).1.2.2.drawn := ⟨k, hi⟩
    have e : T i q = (c h.choose).1.2.2.tape i q := dif_pos h
    rw [e]
    have hk := h.choose_spec
    generalize h.choose = k' at hk
    rcases Nat.le_total k k' with hle | hle
    · obtain ⟨d, rfl⟩ := Nat.exists_eq_add_of_le hle
      exact (mono k d).2 i q hi
    · obtain ⟨d, rfl⟩ := Nat.exists_eq_add_of_le hle
      exact ((mono k' d).2 i q hk).symm
  have never : ∀ fr cs w, LRun X.P Q fr cs w → ∀ k, fr = (c k).1.1 → cs = (c k).1.2.1 → w = re (c k).1.2.2 T → False := by
    intro fr cs w h
    induction h with
    | done hq =>
      rintro k rfl rfl rfl
      exact (c k).2.2.2 (.done (hQre _ _ _ T (c k).2.1 (hT k) hq))
    | step hs _ ih =>
      rintro k rfl rfl rfl
      obtain ⟨-, -, es, h⟩ := hnext k
      rw [h T (hT _)] at hs
      cases hs
      exact ih (k + 1) rfl rfl rfl
  exact never _ _ _ ((c 0).2.2.1 T (hT 0)) 0 rfl rfl rfl

end

end Go.Proofs.YtkpekiajdlolnabGreat.Sim

/-
  THE SIMULATION, sixteenth text: FROM A LONE CONTRACT TO "IT MUST COME THERE".
-/
namespace Go.Proofs.YtkpekiajdlolnabGreat.Sim
open Go Go.Conc

section
variable {X : Cx} {Fb : FuncId → Bool} {wr : Bool}

theorem lone_inj {fr fr' : Frame} {cs cs' : List Frame} {w w' : World} (h : lone fr cs w = lone fr' cs' w') : fr = fr' ∧ cs = cs' ∧ w = w' := by
  unfold lone at h
  injection h with h1 h2
  simp at h2
  exact ⟨h2.1, h2.2, h1⟩

theorem bare_go {s : GStep} {g : Goroutine} {w : World} {es : Array Event} (h : s = .go g w es) : s.bare = .go g w := by rw [h]; rfl
theorem bare_ended {s : GStep} {o : Outcome} {w : World} {es : Array Event} (h : s = .ended o w es) : s.bare = .ended o w := by rw [h]; rfl

/-- what the machine's run of one goroutine tells of the goroutine's own. -/
theorem conv (S : X.Set Fb wr (fun _ => false)) {Q : Frame → List Frame → World → Prop} {fr' : Frame} {cs' : List Frame} {w' : World} (hq : Q fr' cs' w') : ∀ (n : Nat) {fr : Frame} {cs : List Frame} {w : World},
    (Inv X Fb wr fr cs w ∨ (NB w ∧ Panicky fr cs w)) → runN X.P n (lone fr cs w) = .next (lone fr' cs' w') → LRun X.P Q fr cs w := by
  intro n
  induction n with
  | zero =>
    intro fr cs w _ h
    have h : Stepped.next (lone fr cs w) = .next (lone fr' cs' w') := h
    injection h with h
    obtain ⟨rfl, rfl, rfl⟩ := lone_inj h
    exact .done hq
  | succ n ih =>
    intro fr cs w hi h
    have key : (∃ o w1 es, stepG X.P true (G fr cs) w = .ended o w1 es) ∨ ∃ fr1 cs1 w1 es, stepG X.P true (G fr cs) w = .go (G fr1 cs1) w1 es ∧ (Inv X Fb wr fr1 cs1 w1 ∨ (NB w1 ∧ Panicky fr1 cs1 w1)) := by
      rcases hi with hi | ⟨hn, hp⟩
      · by_cases hgo : fr.mode = .run ∨ fr.defers ≠ [] ∨ cs ≠ [c0]
        · exact hi.step S hgo
        · exact (end_shape S hi hgo).imp id fun ⟨fr1, cs1, w1, es, a, b⟩ => ⟨fr1, cs1, w1, es, a, .inr b⟩
      · rcases panic_step hn hp with h1 | ⟨fr1, cs1, w1, es, h1, h2, h3⟩
        · exact .inl h1
        · exact .inr ⟨_, _, _, _, h1, .inr ⟨h2, h3⟩⟩
    unfold runN at h
    rcases key with ⟨o, w1, es, e⟩ | ⟨fr1, cs1, w1, es, e, hi1⟩
    · rw [step_lone_ended (bare_ended e)] at h
      cases h
    · rw [step_lone_go (bare_go e)] at h
      exact .step e (ih hi1 h)

/-- where a call ends: the value is ready to be handed down. -/
def Done (P : Program) (R : Value → World → Prop) (fr : Frame) (cs : List Frame) (w : World) : Prop := cs = [c0] ∧ ∃ v, fr.leaving P w (.returned v) ∧ R v w

theorem must_of_calls (S : X.Set Fb wr (fun _ => false)) {f : FuncId} {ars : Array Value} {w : World} (hinv : Inv X Fb wr (Frame.enter X.P f ars .normal) [c0] w) {R : Value → World → Prop} (hR : ∀ v w τ, R v (re w τ) → R v w)
    (hc : ∀ τ, Agree w τ → Calls X.P f ars (re w τ) fun | .returned v, w' => R v w' | _, _ => False) : LMust X.P (Done X.P R) (Frame.enter X.P f ars .normal) [c0] w := by
  refine bar S (fun fr cs w h => ?_) (fun fr cs w τ hi ha h => ?_) hinv (fun τ ha => ?_)
  · obtain ⟨-, v, h, -⟩ := h
    intro ch e
    rw [h.1] at e; cases e
  · obtain ⟨e, v, ⟨h1, h2, h3, fn, h4, h5⟩, hr⟩ := h
    refine ⟨e, v, ⟨h1, h2, h3, fn, h4, ?_⟩, hR _ _ _ hr⟩
    obtain ⟨ρ, fr', up, up', w', e0, hf, -, hw, -, -⟩ := hi.re τ
    rcases hrun : (results fn fr.tmps).runT X.P (re w τ) #[] with ⟨r0, es0⟩
    have h5' : r0 = .ok v (re w τ) := by rw [← h5, ← Sem.runT_fst X.P _ _ #[], hrun]
    subst h5'
    obtain ⟨d1, d2, d3⟩ := (SS.results (f := fn) S.ok hf.tmps).loc hw hrun
    have := d3 w.tape (fun i q hi => (ha i q hi).symm)
    rw [← Sem.runT_fst X.P _ _ #[]]
    have e : re (re w τ) w.tape = w := rfl
    rw [e] at this
    rw [this]
    rfl
  · obtain ⟨e, w', fr, hRe, hcomes, hfn, hleave⟩ := hc τ ha [c0]
    cases e with
    | panicked chain => exact hRe.elim
    | outgrown => exact hRe.elim
    | returned v =>
      obtain ⟨n, hn⟩ := hcomes
      exact conv S (Q := Done X.P R) ⟨rfl, v, hleave, hRe⟩ n (.inl (hinv.re τ)) hn
end

end Go.Proofs.YtkpekiajdlolnabGreat.Sim
