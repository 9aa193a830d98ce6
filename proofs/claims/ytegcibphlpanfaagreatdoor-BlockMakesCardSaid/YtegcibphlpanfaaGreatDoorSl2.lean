/- The judgements of a walk: code, a row of operations, an exit, each over a table of temporaries and a world; rules for code, loops, calls. -/
import Derived.Test.YtegcibphlpanfaaGreatDoorSl1
namespace Go.Proofs.YtegcibphlpanfaaGreatDoor.SL
open Go.RowKit
set_option linter.unusedVariables false
set_option linter.unusedSimpArgs false
abbrev Tm := List (Nat × Value)
def look : Tm → Nat → Option Value
  | [], _ => none
  | (k, v) :: T, i => match Nat.beq k i with
    | true => some v
    | false => look T i
def ev (T : Tm) : Operand → Option Value
  | .tmp t => look T t
  | .const v => some v
  | .global g => some (.pointer (some ⟨g, 0, none⟩))
  | .func f => some (.func (.func f) #[] #[])
def evs (T : Tm) : List Operand → Option (List Value)
  | [] => some []
  | x :: l => match ev T x, evs T l with
    | some v, some vs => some (v :: vs)
    | _, _ => none
/-- An act that has what the table says. -/
structure Fits (n : Nat) (D : List Deferred) (T : Tm) (a : Act) : Prop where
  size : a.tmps.size = n
  defs : a.defers = D
  out : ∀ i v, look T i = some v → a.tmps[i]? = some v
theorem Fits.ev {n : Nat} {D : List Deferred} {T : Tm} {a : Act} (h : Fits n D T a) {x : Operand} {v : Value} (e : ev T x = some v) : a.eval x = v := by
  cases x with
  | tmp t => have := h.out t v e; simp [Act.eval, this]
  | const u => exact Option.some.inj e
  | global g => exact Option.some.inj e
  | func f => exact Option.some.inj e
theorem Fits.evs {n : Nat} {D : List Deferred} {T : Tm} {a : Act} (h : Fits n D T a) : ∀ {l : List Operand} {vs : List Value}, evs T l = some vs → l.map a.eval = vs
  | [], _, e => by cases e; rfl
  | x :: l, vs, e => by
    unfold SL.evs at e
    cases h1 : SL.ev T x with
    | none => rw [h1] at e; cases e
    | some v =>
      cases h2 : SL.evs T l with
      | none => rw [h1, h2] at e; cases e
      | some us =>
        rw [h1, h2] at e
        cases e
        rw [List.map_cons, h.ev h1, h.evs h2]
theorem Fits.put {n : Nat} {D : List Deferred} {T : Tm} {a : Act} (h : Fits n D T a) (d : Nat) (v : Value) (hd : Nat.blt d n = true) : Fits n D ((d, v) :: T) (a.put (some d) v) := by
  have hlt : d < n := by simpa [Nat.blt_eq] using hd
  refine ⟨by simpa [Act.put] using h.size, h.defs, fun i u e => ?_⟩
  unfold look at e
  cases hb : Nat.beq d i with
  | true =>
    rw [hb] at e
    have hdi : d = i := Nat.eq_of_beq_eq_true hb
    subst hdi
    cases e
    simp [Act.put, h.size, hlt]
  | false =>
    rw [hb] at e
    have hne : d ≠ i := Nat.ne_of_beq_eq_false hb
    simp only [Act.put]
    rw [Array.getElem?_setIfInBounds_ne hne]
    exact h.out i u e
def Sub (T T' : Tm) : Prop := ∀ i v, look T' i = some v → look T i = some v
theorem Sub.nil (T : Tm) : Sub T [] := fun _ _ h => by cases h
theorem Sub.cons {T T' : Tm} {k : Nat} {v : Value} (h : look T k = some v) (hs : Sub T T') : Sub T ((k, v) :: T') := fun i u e => by
  unfold look at e
  cases hb : Nat.beq k i with
  | true => rw [hb] at e; cases e; rw [← Nat.eq_of_beq_eq_true hb]; exact h
  | false => rw [hb] at e; exact hs i u e
/-- The same where the value is known by another name. -/
theorem Sub.consE {T T' : Tm} {k : Nat} {u v : Value} (h : look T k = some u) (e : u = v) (hs : Sub T T') : Sub T ((k, v) :: T') := by
  subst e; exact .cons h hs
theorem Fits.sub {n : Nat} {D : List Deferred} {T T' : Tm} {a : Act} (h : Fits n D T a) (s : Sub T T') : Fits n D T' a := ⟨h.size, h.defs, fun i v e => h.out i v (s i v e)⟩
section
variable {P : Program} {n : Nat} {D : List Deferred} {Q : Exit → Act → World → Prop} {T : Tm} {w : World}
def WP (P : Program) (n : Nat) (D : List Deferred) (c : Code) (Q : Exit → Act → World → Prop) (T : Tm) (w : World) : Prop := ∀ a, Fits n D T a → c.wp P Q a w
def WO (P : Program) (n : Nat) (D : List Deferred) (ops : Array Oper) (Q : Exit → Act → World → Prop) (l : List Oper) (T : Tm) (w : World) : Prop := ∀ a, Fits n D T a → wpList P ops Q l a w
def NX (n : Nat) (D : List Deferred) (Q : Exit → Act → World → Prop) (e : Exit) (T : Tm) (w : World) : Prop := ∀ a, Fits n D T a → Q e a w
theorem WP.seq {x y : Code} (h : WP P n D x (Exit.then (y.wp P Q) Q) T w) : WP P n D (.seq x y) Q T w := fun a f => wp_seq (h a f)
theorem WP.region {id : Nat} {ops : Array Oper} {l : List Oper} (hl : ops.toList = l) (h : WO P n D ops Q l T w) : WP P n D (.region id ops false) Q T w := fun a f => wp_region_list (hl ▸ h a f)
theorem WO.nil {ops : Array Oper} (h : NX n D Q .normal T w) : WO P n D ops Q [] T w := fun a f => h a f
theorem NX.go {y : Code} (h : WP P n D y Q T w) : NX n D (Exit.then (y.wp P Q) Q) .normal T w := h
theorem NX.blk {id : Nat} (h : NX n D Q .normal T w) : NX n D (Exit.inBlock id Q) .normal T w := h
theorem NX.thenRet {K : Act → World → Prop} (h : NX n D Q .ret T w) : NX n D (Exit.then K Q) .ret T w := h
theorem NX.blkRet {id : Nat} (h : NX n D Q .ret T w) : NX n D (Exit.inBlock id Q) .ret T w := h
theorem NX.thenExit {K : Act → World → Prop} {id : Nat} (h : NX n D Q (.exit id) T w) : NX n D (Exit.then K Q) (.exit id) T w := h
theorem NX.blkExit {id : Nat} (h : NX n D Q .normal T w) : NX n D (Exit.inBlock id Q) (.exit id) T w := fun a f => by simp only [Exit.inBlock, if_true]; exact h a f
theorem NX.blkPass {id id' : Nat} (hne : Nat.beq id' id = false) (h : NX n D Q (.exit id') T w) : NX n D (Exit.inBlock id Q) (.exit id') T w := fun a f => by simp only [Exit.inBlock, Nat.ne_of_beq_eq_false hne, if_false]; exact h a f
theorem WP.skip (h : NX n D Q .normal T w) : WP P n D .skip Q T w := fun a f => wp_skip (h a f)
theorem WP.ret (h : NX n D Q .ret T w) : WP P n D .ret Q T w := fun a f => wp_ret (h a f)
theorem WP.exit {id : Nat} (h : NX n D Q (.exit id) T w) : WP P n D (.exit id) Q T w := fun a f => wp_exit (h a f)
theorem WP.block {id : Nat} {c : Code} (h : WP P n D c (Exit.inBlock id Q) T w) : WP P n D (.block id c) Q T w := fun a f => wp_block (h a f)
theorem WP.condB {c : Operand} {x y : Code} {t : Bool} (hc : ev T c = some (.bool t)) (h1 : t = true → WP P n D x Q T w) (h2 : t = false → WP P n D y Q T w) : WP P n D (.cond c x y) Q T w :=
  fun a f => wp_cond_split (f.ev hc) (fun e => h1 e a f) (fun e => h2 e a f)
theorem WP.condT {c : Operand} {x y : Code} {t : Bool} (hc : ev T c = some (.bool t)) (e : t = true) (h : WP P n D x Q T w) : WP P n D (.cond c x y) Q T w :=
  .condB hc (fun _ => h) (fun e' => by rw [e] at e'; cases e')
theorem WP.condF {c : Operand} {x y : Code} {t : Bool} (hc : ev T c = some (.bool t)) (e : t = false) (h : WP P n D y Q T w) : WP P n D (.cond c x y) Q T w :=
  .condB hc (fun e' => by rw [e] at e'; cases e') (fun _ => h)
theorem NX.sub {e : Exit} {T' : Tm} (s : Sub T T') (h : NX n D Q e T' w) : NX n D Q e T w := fun a f => h a (f.sub s)
/-- A loop's body, and behind it the loop again. -/
def LW (P : Program) (c : Code) (Q : Exit → Act → World → Prop) (a : Act) (w : World) : Prop :=
  ∀ (b : Frame) (k : List Item) (cs : List Frame), ∃ e a' w', Q e a' w' ∧ Arrives P (lone (b.at a (.code c :: .inLoop c :: k)) cs w) b k cs e a' w'
theorem LW.loop {c : Code} {a : Act} {w : World} (h : LW P c Q a w) : (Code.loop c).wp P Q a w := fun b k cs => by
  obtain ⟨e, a', w', hq, harr⟩ := h b k cs
  exact ⟨e, a', w', hq, .of_steps (.one step_loop) harr⟩
theorem LW.round {c : Code} {a : Act} {w : World} (h : c.wp P (Exit.then (LW P c Q) Q) a w) : LW P c Q a w := fun b k cs => by
  obtain ⟨e, a₁, w₁, hq, harr⟩ := h b (.inLoop c :: k) cs
  cases e with
  | normal =>
    obtain ⟨e₂, a₂, w₂, hq₂, harr₂⟩ := hq b k cs
    exact ⟨e₂, a₂, w₂, hq₂, .of_steps (Steps.trans harr (.one step_inLoop)) harr₂⟩
  | exit id => exact ⟨_, a₁, w₁, hq, .pass (x := .inLoop c) rfl (fun _ _ => .inl (by simp)) harr⟩
  | goto l => exact ⟨_, a₁, w₁, hq, .pass (x := .inLoop c) rfl (fun _ _ => .inl (by simp)) harr⟩
  | ret => exact ⟨_, a₁, w₁, hq, .pass (x := .inLoop c) rfl (fun _ _ => .inl (by simp)) harr⟩
  | panic ch => exact ⟨_, a₁, w₁, hq, .pass (x := .inLoop c) rfl (fun _ _ => .inl (by simp)) harr⟩
  | outgrown => exact ⟨_, a₁, w₁, hq, .pass (x := .inLoop c) rfl (fun _ _ => .inl (by simp)) harr⟩
/-- What a round must come to: the table and the world of a lower state. -/
def Again (n : Nat) (D : List Deferred) {α : Type} (H : α → Tm) (I : α → World → Prop) (μ : α → Nat) (x : α) (a : Act) (w : World) : Prop := ∃ y, μ y < μ x ∧ I y w ∧ Fits n D (H y) a
theorem WP.loop {α : Type} {c : Code} (H : α → Tm) (I : α → World → Prop) (μ : α → Nat) (x0 : α) (h0 : I x0 w) (s : Sub T (H x0))
    (round : ∀ x w, I x w → WP P n D c (Exit.then (Again n D H I μ x) Q) (H x) w) : WP P n D (.loop c) Q T w := fun a f => by
  have key : ∀ m x a w, μ x = m → I x w → Fits n D (H x) a → LW P c Q a w := by
    intro m
    induction m using Nat.strongRecOn with
    | _ m ih =>
      intro x a w hm hI hf
      refine LW.round (wp_mono (round x w hI a hf) fun e a' w' q => ?_)
      cases e with
      | normal => obtain ⟨y, hlt, hI', hf'⟩ := q; exact ih (μ y) (hm ▸ hlt) y a' w' rfl hI' hf'
      | _ => exact q
  exact LW.loop (key _ x0 a w rfl h0 (f.sub s))
theorem NX.again {α : Type} {H : α → Tm} {I : α → World → Prop} {μ : α → Nat} {x : α} (y : α) (hI : I y w) (hlt : μ y < μ x) (s : Sub T (H y)) : NX n D (Exit.then (Again n D H I μ x) Q) .normal T w :=
  fun a f => ⟨y, hlt, hI, f.sub s⟩
/-- What a function comes to: it returns. -/
def ret (Φ : Value → World → Prop) : Ending → World → Prop := fun e w => ∃ v, e = .returned v ∧ Φ v w
def Does (P : Program) (f : FuncId) (args : List Value) (w : World) (Φ : Value → World → Prop) : Prop := Calls P f args.toArray w (ret Φ)
theorem Does.mono {f : FuncId} {args : List Value} {Φ Ψ : Value → World → Prop} (h : Does P f args w Φ) (k : ∀ v w', Φ v w' → Ψ v w') : Does P f args w Ψ :=
  Calls.mono h fun _ _ ⟨v, e, p⟩ => ⟨v, e, k _ _ p⟩
def idx : Nat → List Value → Tm
  | _, [] => []
  | k, v :: l => (k, v) :: idx (k + 1) l
theorem look_idx : ∀ (l : List Value) (k i : Nat) (v : Value), look (idx k l) i = some v → k ≤ i ∧ l[i - k]? = some v
  | [], _, _, _, h => by cases h
  | u :: l, k, i, v, h => by
    unfold idx look at h
    cases hb : Nat.beq k i with
    | true =>
      rw [hb] at h; cases h
      have := Nat.eq_of_beq_eq_true hb
      subst this
      exact ⟨Nat.le_refl _, by simp⟩
    | false =>
      rw [hb] at h
      obtain ⟨h1, h2⟩ := look_idx l (k + 1) i v h
      refine ⟨by omega, ?_⟩
      have : i - k = (i - (k + 1)) + 1 := by omega
      rw [this, List.getElem?_cons_succ]; exact h2
theorem enter {f : FuncId} {fn : Func} {c : Code} {R : Ending → World → Prop} (hf : P.funcs[f]? = some fn) (hb : fn.body = some c) (hn : fn.ntmps = n) (args : List Value) (hlen : Nat.ble args.length n = true)
    (h : WP P n [] c (bodyPost P fn R) (idx 0 args) w) : Calls P f args.toArray w R := by
  refine calls_of_wp hf hb (h _ ⟨?_, rfl, fun i v e => ?_⟩)
  · have := Nat.le_of_ble_eq_true hlen
    simp only [Array.size_append, List.size_toArray, Array.size_replicate, hn]; omega
  · obtain ⟨_, h2⟩ := look_idx args 0 i v e
    rw [Nat.sub_zero] at h2
    have hlt := (List.getElem?_eq_some_iff.1 h2).1
    rw [Array.getElem?_append_left (by simpa using hlt)]
    simpa using h2
/-- The results, all in temporaries. -/
def outs (T : Tm) : List ResultVar → Option (List Value)
  | [] => some []
  | .tmp t :: l => match look T t, outs T l with
    | some v, some vs => some (v :: vs)
    | _, _ => none
  | .cell _ _ :: _ => none
def one (vs : List Value) : Value := match vs with
  | [v] => v
  | _ => .tuple vs.toArray
def resOf (tmps : Array Value) : ResultVar → Sem Value
  | .tmp t => pure (tmps.getD t undef)
  | .cell a t => do loadVar t (← asAddr (tmps.getD a undef))
theorem results_eq (fn : Func) (tmps : Array Value) : results fn tmps = (do let vs ← fn.results.mapM (resOf tmps); pure (if h : vs.size = 1 then vs[0] else .tuple vs)) := rfl
theorem outs_map {a : Act} (f : Fits n D T a) : ∀ {l : List ResultVar} {vs : List Value}, outs T l = some vs → (l.mapM (resOf a.tmps)).run P w = .ok vs w
  | [], vs, e => by cases e; rfl
  | .cell _ _ :: _, _, e => by cases e
  | .tmp t :: l, vs, e => by
    unfold outs at e
    cases h1 : look T t with
    | none => rw [h1] at e; cases e
    | some v =>
      cases h2 : outs T l with
      | none => rw [h1, h2] at e; cases e
      | some us =>
        rw [h1, h2] at e
        cases e
        have ih := outs_map f h2
        have hv : a.tmps.getD t undef = v := by simp [f.out t v h1]
        simp [List.mapM_cons, resOf, ih, hv]
theorem results_ok {fn : Func} {a : Act} (f : Fits n D T a) {vs : List Value} {l : List ResultVar} (hr : fn.results = l.toArray) (h : outs T l = some vs) : (results fn a.tmps).run P w = .ok (one vs) w := by
  have := outs_map (P := P) (w := w) f h
  rw [results_eq, hr, List.mapM_toArray]
  simp [this, one]
  split
  · rename_i h1
    obtain ⟨v, rfl⟩ := List.length_eq_one_iff.1 h1
    rfl
  · rename_i h1
    split
    · exact absurd rfl h1
    · rfl
theorem NX.done {fn : Func} {Φ : Value → World → Prop} {l : List ResultVar} {vs : List Value} (hr : fn.results = l.toArray) (ht : outs T l = some vs) (h : Φ (one vs) w) : NX n [] (bodyPost P fn (SL.ret Φ)) .ret T w :=
  fun a f => ⟨f.defs, _, results_ok f hr ht, _, rfl, h⟩
theorem NX.ended {fn : Func} {Φ : Value → World → Prop} {l : List ResultVar} {vs : List Value} (hr : fn.results = l.toArray) (ht : outs T l = some vs) (h : Φ (one vs) w) : NX n [] (bodyPost P fn (SL.ret Φ)) .normal T w :=
  fun a f => ⟨f.defs, _, results_ok f hr ht, _, rfl, h⟩
/-! Operations. -/
/-- In every act that the table fits, the operation yields v, and the world is w' behind it. -/
def Run (P : Program) (n : Nat) (D : List Deferred) (T : Tm) (w : World) (o : Oper) (v : Value) (w' : World) : Prop := ∀ a, Fits n D T a → (execOp a.eval o).run P w = .ok (.value v) w'
def RunS (P : Program) (n : Nat) (D : List Deferred) (T : Tm) (w : World) (o : Oper) (w' : World) : Prop := ∀ a, Fits n D T a → (execOp a.eval o).run P w = .ok .skip w'
variable {ops : Array Oper} {rest : List Oper}
theorem WO.val {o : Oper} {d : Nat} {v : Value} {w' : World} (hr : Run P n D T w o v w') (hg : o.guard = none) (hd : o.dst = some d) (hn : Nat.blt d n = true) (h : WO P n D ops Q rest ((d, v) :: T) w') : WO P n D ops Q (o :: rest) T w :=
  fun a f => wpList_plain hg fun K hK => by
    unfold Oper.wp
    rw [hr a f]
    exact hK _ _ (hd ▸ h _ (f.put d v hn))
/-- A value that nobody reads. -/
theorem WO.valN {o : Oper} {v : Value} {w' : World} (hr : Run P n D T w o v w') (hg : o.guard = none) (hd : o.dst = none) (h : WO P n D ops Q rest T w') : WO P n D ops Q (o :: rest) T w :=
  fun a f => wpList_plain hg fun K hK => by
    unfold Oper.wp
    rw [hr a f]
    exact hK _ _ (by rw [hd]; exact h _ f)
theorem WO.eff {o : Oper} {w' : World} (hr : RunS P n D T w o w') (hg : o.guard = none) (hd : o.dst = none) (h : WO P n D ops Q rest T w') : WO P n D ops Q (o :: rest) T w :=
  fun a f => wpList_plain hg fun K hK => by
    unfold Oper.wp
    rw [hr a f]
    exact hK _ _ (by rw [hd]; exact h _ f)
theorem yielded_ok {a : Act} (f : Fits n D T a) {j t : Nat} {b : Bool} (hj : (ops[j]?).bind (·.dst) = some t) (ht : look T t = some (.bool b)) : yielded ops a.tmps j = some b := by
  unfold yielded
  rw [hj]
  simp [f.out t _ ht]
theorem WO.on {d : Option Nat} {op : Op} {ty : TypeId} {pos : String} {aft : Array Edge} {j t : Nat} {b c : Bool} (hj : (ops[j]?).bind (·.dst) = some t) (ht : look T t = some (.bool c)) (e : c = b)
    (h : WO P n D ops Q (⟨d, op, ty, pos, aft, none⟩ :: rest) T w) : WO P n D ops Q (⟨d, op, ty, pos, aft, some (j, b)⟩ :: rest) T w := fun a f => by
  subst e
  have hy := yielded_ok f hj ht
  have h1 := h a f
  unfold wpList at h1 ⊢
  simp only [Region.wanted, hy, beq_self_eq_true, if_true] at h1 ⊢
  exact h1
theorem WO.off {d : Nat} {op : Op} {ty : TypeId} {pos : String} {aft : Array Edge} {j t : Nat} {b c : Bool} (hj : (ops[j]?).bind (·.dst) = some t) (ht : look T t = some (.bool c)) (e : c = !b) (hn : Nat.blt d n = true)
    (h : WO P n D ops Q rest ((d, undef) :: T) w) : WO P n D ops Q (⟨some d, op, ty, pos, aft, some (j, b)⟩ :: rest) T w := fun a f => by
  subst e
  have hy := yielded_ok f hj ht
  unfold wpList
  have hw : Region.wanted ⟨some d, op, ty, pos, aft, some (j, b)⟩ (yielded ops a.tmps) = false := by simp only [Region.wanted, hy]; cases b <;> rfl
  rw [if_neg (by simp [hw])]
  exact h _ (f.put d undef hn)
theorem yielded_un {a : Act} (f : Fits n D T a) {j t : Nat} (hj : (ops[j]?).bind (·.dst) = some t) (ht : look T t = some undef) : yielded ops a.tmps j = none := by
  unfold yielded
  rw [hj]
  simp [f.out t _ ht, undef]
theorem WO.offU {d : Nat} {op : Op} {ty : TypeId} {pos : String} {aft : Array Edge} {j t : Nat} {b : Bool} (hj : (ops[j]?).bind (·.dst) = some t) (ht : look T t = some undef) (hn : Nat.blt d n = true)
    (h : WO P n D ops Q rest ((d, undef) :: T) w) : WO P n D ops Q (⟨some d, op, ty, pos, aft, some (j, b)⟩ :: rest) T w := fun a f => by
  have hy := yielded_un f hj ht
  unfold wpList
  have hw : Region.wanted ⟨some d, op, ty, pos, aft, some (j, b)⟩ (yielded ops a.tmps) = false := by simp only [Region.wanted, hy]; rfl
  rw [if_neg (by simp [hw])]
  exact h _ (f.put d undef hn)
/-- A function that may be called. -/
structure Has (P : Program) (f : FuncId) : Prop where
  out : ∀ args w, (callFunc f args).run P w = .ok (.enter f args) w
theorem Has.mk' {f : FuncId} {fn : Func} (hf : P.funcs[f]? = some fn) (hname : (fn.name == "runtime.NumGoroutine") = false) (hb : fn.body.isSome = true) : Has P f := ⟨fun args w => by
  have h1 : fn.name ≠ "runtime.NumGoroutine" := by simpa using hname
  obtain ⟨c, hc⟩ := Option.isSome_iff_exists.1 hb
  simp [callFunc, hf, h1, hc]⟩
/-- A call of a function, by what it comes to. -/
theorem WO.call {d : Nat} {x : Operand} {as : Array Operand} {ts : Array TypeId} {ty : TypeId} {pos : String} {aft : Array Edge} {f : FuncId} {vs : List Value} {Φ : Value → World → Prop}
    (hx : ev T x = some (.func (.func f) #[] #[])) (ha : evs T as.toList = some vs) (hF : Has P f) (hn : Nat.blt d n = true) (hc : Does P f vs w Φ)
    (h : ∀ v w', Φ v w' → WO P n D ops Q rest ((d, v) :: T) w') : WO P n D ops Q (⟨some d, .call ⟨.value x, as, ts⟩, ty, pos, aft, none⟩ :: rest) T w :=
  fun a fi => wpList_plain rfl fun K hK => by
    have h1 := fi.ev hx
    have h2 : as.map a.eval = vs.toArray := by
      have := fi.evs ha
      rw [← this]; apply Array.ext'; simp
    have hrun : (execOp a.eval ⟨some d, .call ⟨.value x, as, ts⟩, ty, pos, aft, none⟩).run P w = .ok (.enter f vs.toArray) w := by
      simp [execOp, resolve, Deferred.ofValue, h1, h2, invoke, hF.out]
    unfold Oper.wp
    rw [hrun, Oper.upon_enter]
    refine Calls.mono hc fun e w'' hh => ?_
    obtain ⟨v, rfl, hp⟩ := hh
    exact hK _ _ (h v w'' hp _ (fi.put d v hn))
/-- A call of a function value: what it has taken along stands behind the arguments. -/
theorem WO.callV {d : Nat} {x : Operand} {as : Array Operand} {ts : Array TypeId} {ty : TypeId} {pos : String} {aft : Array Edge} {f : FuncId} {vs us cs : List Value} {Φ : Value → World → Prop}
    (hx : ev T x = some (.func (.func f) us.toArray cs.toArray)) (ha : evs T as.toList = some vs) (hF : Has P f) (hn : Nat.blt d n = true) (hc : Does P f (us ++ vs ++ cs) w Φ)
    (h : ∀ v w', Φ v w' → WO P n D ops Q rest ((d, v) :: T) w') : WO P n D ops Q (⟨some d, .call ⟨.value x, as, ts⟩, ty, pos, aft, none⟩ :: rest) T w :=
  fun a fi => wpList_plain rfl fun K hK => by
    have h1 := fi.ev hx
    have h2 : as.map a.eval = vs.toArray := by
      have := fi.evs ha
      rw [← this]; apply Array.ext'; simp
    have hrun : (execOp a.eval ⟨some d, .call ⟨.value x, as, ts⟩, ty, pos, aft, none⟩).run P w = .ok (.enter f (us ++ vs ++ cs).toArray) w := by
      simp [execOp, resolve, Deferred.ofValue, h1, h2, invoke, hF.out]
    unfold Oper.wp
    rw [hrun, Oper.upon_enter]
    refine Calls.mono hc fun e w'' hh => ?_
    obtain ⟨v, rfl, hp⟩ := hh
    exact hK _ _ (h v w'' hp _ (fi.put d v hn))
end
end Go.Proofs.YtegcibphlpanfaaGreatDoor.SL
