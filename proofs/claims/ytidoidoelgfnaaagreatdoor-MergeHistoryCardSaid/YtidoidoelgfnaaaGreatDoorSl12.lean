/- Calls that throw, deferred calls, and what recovers. -/
import Derived.Test.YtidoidoelgfnaaaGreatDoorSl9M
import Derived.Recover
namespace Go.Proofs.YtidoidoelgfnaaaGreatDoor.SL
open Go.RowKit
set_option linter.unusedVariables false
set_option linter.unusedSimpArgs false
section
variable {P : Program} {n : Nat} {D : List Deferred} {Q : Exit → Act → World → Prop} {T : Tm} {w : World} {ops : Array Oper} {rest : List Oper}
/-- What a function comes to: it returns, or it throws. -/
def retX (Φ : Value → World → Prop) (Ψ : List PanicEntry → World → Prop) : Ending → World → Prop := fun e w => (∃ v, e = .returned v ∧ Φ v w) ∨ ∃ ch, e = .panicked ch ∧ Ψ ch w
def DoesX (P : Program) (f : FuncId) (args : List Value) (w : World) (Φ : Value → World → Prop) (Ψ : List PanicEntry → World → Prop) : Prop := Calls P f args.toArray w (retX Φ Ψ)
theorem WO.callX {d : Nat} {x : Operand} {as : Array Operand} {ts : Array TypeId} {ty : TypeId} {pos : String} {aft : Array Edge} {f : FuncId} {vs : List Value} {Φ : Value → World → Prop} {Ψ : List PanicEntry → World → Prop}
    (hx : ev T x = some (.func (.func f) #[] #[])) (ha : evs T as.toList = some vs) (hF : Has P f) (hn : Nat.blt d n = true) (hc : DoesX P f vs w Φ Ψ)
    (hp : ∀ ch w', Ψ ch w' → NX n D Q (.panic ch) T w') (h : ∀ v w', Φ v w' → WO P n D ops Q rest ((d, v) :: T) w') : WO P n D ops Q (⟨some d, .call ⟨.value x, as, ts⟩, ty, pos, aft, none⟩ :: rest) T w :=
  fun a fi => wpList_plain rfl fun K hK => by
    have h1 := fi.ev hx
    have h2 : as.map a.eval = vs.toArray := by
      have := fi.evs ha
      rw [← this]; apply Array.ext'; simp
    have hrun : (execOp a.eval ⟨some d, .call ⟨.value x, as, ts⟩, ty, pos, aft, none⟩).run P w = .ok (.enter f vs.toArray) w := by
      simp [execOp, resolve, Deferred.ofValue, h1, h2, invoke, hF.out]
    unfold Oper.wp
    rw [hrun, Oper.upon_enter]
    refine Calls.mono hc fun e w'' hh => ?_
    rcases hh with ⟨v, rfl, q⟩ | ⟨ch, rfl, q⟩
    · exact hK _ _ (h v w'' q _ (fi.put d v hn))
    · exact hp ch w'' q a fi
theorem NX.thenPanic {K : Act → World → Prop} {ch : List PanicEntry} (h : NX n D Q (.panic ch) T w) : NX n D (Exit.then K Q) (.panic ch) T w := h
theorem NX.blkPanic {id : Nat} {ch : List PanicEntry} (h : NX n D Q (.panic ch) T w) : NX n D (Exit.inBlock id Q) (.panic ch) T w := h
theorem NX.thrown {fn : Func} {Φ : Value → World → Prop} {Ψ : List PanicEntry → World → Prop} {ch : List PanicEntry} (h : Ψ ch w) : NX n [] (bodyPost P fn (retX Φ Ψ)) (.panic ch) T w := fun a f => ⟨f.defs, .inr ⟨ch, rfl, h⟩⟩
theorem run_panicI {t : TypeId} {v : Value} : (Instr.panic (.iface t v)).run P w = .halt (.panic (.iface t v)) w := by
  simp [Instr.panic, go_sem]
theorem WO.panic {dst : Option Nat} {x : Operand} {ty : TypeId} {pos : String} {aft : Array Edge} {t : TypeId} {v : Value} (hx : ev T x = some (.iface t v)) (h : NX n D Q (.panic [{ v := .iface t v, recovered := false }]) T w) : WO P n D ops Q (⟨dst, .panic x, ty, pos, aft, none⟩ :: rest) T w :=
  fun a fi => wpList_plain rfl fun K hK => by
    have h1 := fi.ev hx
    have hrun : (execOp a.eval ⟨dst, .panic x, ty, pos, aft, none⟩).run P w = .halt (.panic (.iface t v)) w := by
      simp [execOp, h1, run_panicI]
    unfold Oper.wp
    rw [hrun, Oper.upon_panic]
    exact h a fi
/-! Deferred calls. -/
theorem enterD {f : FuncId} {fn : Func} {c : Code} {R : Ending → World → Prop} (hf : P.funcs[f]? = some fn) (hb : fn.body = some c) (hn : fn.ntmps = n) (args : List Value) (hlen : Nat.ble args.length n = true)
    (h : WP P n [] c (bodyPostD P fn R) (idx 0 args) w) : Calls P f args.toArray w R := by
  refine calls_of_wp_defers hf hb (h _ ⟨?_, rfl, fun i v e => ?_⟩)
  · have := Nat.le_of_ble_eq_true hlen
    simp only [Array.size_append, List.size_toArray, Array.size_replicate, hn]; omega
  · obtain ⟨_, h2⟩ := look_idx args 0 i v e
    rw [Nat.sub_zero] at h2
    have hlt := (List.getElem?_eq_some_iff.1 h2).1
    rw [Array.getElem?_append_left (by simpa using hlt)]
    simpa using h2
/-- A call is laid aside. -/
theorem WO.defer {dst : Option Nat} {x : Operand} {as : Array Operand} {ts : Array TypeId} {ty : TypeId} {pos : String} {aft : Array Edge} {f : FuncId} {vs us cs : List Value}
    (hx : ev T x = some (.func (.func f) us.toArray cs.toArray)) (ha : evs T as.toList = some vs) (hd : dst = none) (h : WO P n (⟨.fn (.func f) cs.toArray, (us ++ vs).toArray⟩ :: D) ops Q rest T w) : WO P n D ops Q (⟨dst, .defer ⟨.value x, as, ts⟩, ty, pos, aft, none⟩ :: rest) T w :=
  fun a fi => wpList_plain rfl fun K hK => by
    subst hd
    have h1 := fi.ev hx
    have h2 : as.map a.eval = vs.toArray := by
      have := fi.evs ha
      rw [← this]; apply Array.ext'; simp
    have hrun : (execOp a.eval ⟨none, .defer ⟨.value x, as, ts⟩, ty, pos, aft, none⟩).run P w = .ok (.defer ⟨.fn (.func f) cs.toArray, (us ++ vs).toArray⟩) w := by
      simp [execOp, resolve, Deferred.ofValue, h1, h2]
    unfold Oper.wp
    rw [hrun, Oper.upon_defer]
    refine hK _ _ (h _ ⟨fi.size, ?_, fi.out⟩)
    show _ :: a.defers = _
    rw [fi.defs]
/-- What a deferred call comes to: it returns; the mode of the frame below, and the world. -/
def DoesD (P : Program) (f : FuncId) (args : List Value) (u : FrameMode) (w : World) (Φ : FrameMode → World → Prop) : Prop := CallsD P f args.toArray u w fun e u' w' => (∃ v, e = .returned v) ∧ Φ u' w'
/-- Behind the body: the calls that were laid aside, and the results. -/
def LVS (P : Program) (fn : Func) (n : Nat) (D : List Deferred) (T : Tm) (R : Ending → World → Prop) (ds : List Deferred) (u : FrameMode) (w : World) : Prop := ∀ a, Fits n D T a → Leaves P fn a.tmps R ds u w
variable {fn : Func} {R : Ending → World → Prop} {ds : List Deferred}
theorem NX.door (h : LVS P fn n D T R D .returning w) : NX n D (bodyPostD P fn R) .ret T w := fun a f => by
  show Leaves P fn a.tmps R a.defers .returning w
  rw [f.defs]; exact h a f
theorem NX.doorP {ch : List PanicEntry} (h : LVS P fn n D T R D (.panicking ch) w) : NX n D (bodyPostD P fn R) (.panic ch) T w := fun a f => by
  show Leaves P fn a.tmps R a.defers (.panicking ch) w
  rw [f.defs]; exact h a f
theorem LVS.call {f : FuncId} {vs cs : List Value} {u : FrameMode} {Φ : FrameMode → World → Prop} (hF : Has P f) (hu : u ≠ .run) (hc : DoesD P f (vs ++ cs) u w Φ) (h : ∀ u' w', Φ u' w' → LVS P fn n D T R ds (settle u') w') :
    LVS P fn n D T R (⟨.fn (.func f) cs.toArray, vs.toArray⟩ :: ds) u w := fun a fi => by
  refine leaves_cons (f := f) (args := (vs ++ cs).toArray) hu (by simp only [invoke, hF.out]; simp) ?_
  refine CallsD.mono hc fun e u' w' q => ?_
  obtain ⟨⟨v, rfl⟩, q⟩ := q
  exact h u' w' q a fi
theorem LVS.done {Φ : Value → World → Prop} {l : List ResultVar} {vs : List Value} (hr : fn.results = l.toArray) (ht : OutsC P T w l vs) (h : Φ (one vs) w) : LVS P fn n D T (SL.ret Φ) [] .returning w :=
  fun a f => ⟨_, resultsC_ok f hr ht, _, rfl, h⟩
/-! What recovers. -/
/-- A deferred function whose first doing is to recover; the frame below returns: there is nothing. -/
theorem DoesD.recR {f : FuncId} {fn : Func} {c1 : Code} {id d : Nat} {ty : TypeId} {pos : String} {aft : Array Edge} {ts : Array TypeId} {Φ : World → Prop} (hf : P.funcs[f]? = some fn) (hb : fn.body = some (.seq (.region id #[⟨some d, .call ⟨.builtin .recover, #[], ts⟩, ty, pos, aft, none⟩] false) c1)) (hn : fn.ntmps = n) (args : List Value) (hlen : Nat.ble args.length n = true) (hd : Nat.blt d n = true)
    (h : WP P n [] c1 (bodyPost P fn (SL.ret fun _ w => Φ w)) ((d, .nilIface) :: idx 0 args) w) : DoesD P f args .returning w (fun u' w' => u' = .returning ∧ Φ w') := by
  refine callsD_of_wpS hf hb fun c₀ cs hu => wpS_seq (wpS_region ?_)
  have h0 : Fits n [] (idx 0 args) { tmps := args.toArray ++ Array.replicate (fn.ntmps - args.toArray.size) undef, defers := [] } := by
    refine ⟨?_, rfl, fun i v e => ?_⟩
    · have := Nat.le_of_ble_eq_true hlen
      simp only [Array.size_append, List.size_toArray, Array.size_replicate, hn]; omega
    · obtain ⟨_, h2⟩ := look_idx args 0 i v e
      rw [Nat.sub_zero] at h2
      have hlt := (List.getElem?_eq_some_iff.1 h2).1
      rw [Array.getElem?_append_left (by simpa using hlt)]
      simpa using h2
  generalize ({ tmps := args.toArray ++ Array.replicate (fn.ntmps - args.toArray.size) undef, defers := [] } : Act) = a at h0 ⊢
  have hrec : recoverD (c₀ :: cs) = none := by simp [recoverD, hu]
  have hrun : (execOp a.eval ⟨some d, .call ⟨.builtin .recover, #[], ts⟩, ty, pos, aft, none⟩).run P w = .ok .recover w := by simp [execOp, resolve, invoke, builtin]
  have hr : List.range (#[(⟨some d, .call ⟨.builtin .recover, #[], ts⟩, ty, pos, aft, none⟩ : Oper)]).size = [0] := rfl
  rw [hr]
  simp only [wpOpsS, List.getElem?_toArray, List.getElem?_cons_zero, Region.wanted, if_true]
  rw [hrun]
  simp only [hrec]
  show Exit.thenS _ _ .normal _ _ _
  refine wpS_of_wp (wp_mono (h _ (h0.put d .nilIface hd)) fun e a w' q => ?_)
  have hc : ({ c₀ with mode := .returning } : Frame) = c₀ := by cases c₀; simp_all
  cases e with
  | normal => obtain ⟨h1, v, h2, v', h3, h4⟩ := q; exact ⟨h1, .returning, by rw [hc], v, h2, ⟨v', h3⟩, rfl, h4⟩
  | ret => obtain ⟨h1, v, h2, v', h3, h4⟩ := q; exact ⟨h1, .returning, by rw [hc], v, h2, ⟨v', h3⟩, rfl, h4⟩
  | panic ch => obtain ⟨_, v', h3, _⟩ := q; cases h3
  | outgrown => obtain ⟨v', h3, _⟩ := q; cases h3
  | exit i => exact q.elim
  | goto i => exact q.elim
/-- The frame below panics: what was thrown comes back, and the panic is over. -/
theorem DoesD.recP {f : FuncId} {fn : Func} {c1 : Code} {id d : Nat} {ty : TypeId} {pos : String} {aft : Array Edge} {ts : Array TypeId} {Φ : World → Prop} {pv : Value} {older : List PanicEntry} (hf : P.funcs[f]? = some fn) (hb : fn.body = some (.seq (.region id #[⟨some d, .call ⟨.builtin .recover, #[], ts⟩, ty, pos, aft, none⟩] false) c1)) (hn : fn.ntmps = n) (args : List Value) (hlen : Nat.ble args.length n = true) (hd : Nat.blt d n = true)
    (h : WP P n [] c1 (bodyPost P fn (SL.ret fun _ w => Φ w)) ((d, pv) :: idx 0 args) w) : DoesD P f args (.panicking ({ v := pv, recovered := false } :: older)) w (fun u' w' => u' = .panicking ({ v := pv, recovered := true } :: older) ∧ Φ w') := by
  refine callsD_of_wpS hf hb fun c₀ cs hu => wpS_seq (wpS_region ?_)
  have h0 : Fits n [] (idx 0 args) { tmps := args.toArray ++ Array.replicate (fn.ntmps - args.toArray.size) undef, defers := [] } := by
    refine ⟨?_, rfl, fun i v e => ?_⟩
    · have := Nat.le_of_ble_eq_true hlen
      simp only [Array.size_append, List.size_toArray, Array.size_replicate, hn]; omega
    · obtain ⟨_, h2⟩ := look_idx args 0 i v e
      rw [Nat.sub_zero] at h2
      have hlt := (List.getElem?_eq_some_iff.1 h2).1
      rw [Array.getElem?_append_left (by simpa using hlt)]
      simpa using h2
  generalize ({ tmps := args.toArray ++ Array.replicate (fn.ntmps - args.toArray.size) undef, defers := [] } : Act) = a at h0 ⊢
  have hrec : recoverD (c₀ :: cs) = some (pv, { c₀ with mode := .panicking ({ v := pv, recovered := true } :: older) } :: cs) := by simp [recoverD, hu]
  have hrun : (execOp a.eval ⟨some d, .call ⟨.builtin .recover, #[], ts⟩, ty, pos, aft, none⟩).run P w = .ok .recover w := by simp [execOp, resolve, invoke, builtin]
  have hr : List.range (#[(⟨some d, .call ⟨.builtin .recover, #[], ts⟩, ty, pos, aft, none⟩ : Oper)]).size = [0] := rfl
  rw [hr]
  simp only [wpOpsS, List.getElem?_toArray, List.getElem?_cons_zero, Region.wanted, if_true]
  rw [hrun]
  simp only [hrec]
  show Exit.thenS _ _ .normal _ _ _
  refine wpS_of_wp (wp_mono (h _ (h0.put d pv hd)) fun e a w' q => ?_)
  cases e with
  | normal => obtain ⟨h1, v, h2, v', h3, h4⟩ := q; exact ⟨h1, _, rfl, v, h2, ⟨v', h3⟩, rfl, h4⟩
  | ret => obtain ⟨h1, v, h2, v', h3, h4⟩ := q; exact ⟨h1, _, rfl, v, h2, ⟨v', h3⟩, rfl, h4⟩
  | panic ch => obtain ⟨_, v', h3, _⟩ := q; cases h3
  | outgrown => obtain ⟨v', h3, _⟩ := q; cases h3
  | exit i => exact q.elim
  | goto i => exact q.elim
theorem run_equalNilI {t : TypeId} (hu : ∃ ms, P.underlying t = some (.interface ms)) {v : Value} {b : Bool} (hv : (v = .nilIface ∧ b = true) ∨ ((∃ q z, v = .iface q z) ∧ b = false)) : (Op.equal t v .nilIface).run P w = .ok b w := by
  obtain ⟨ms, hu⟩ := hu
  unfold Op.equal Op.maxDepth
  unfold Op.equalIn
  rcases hv with ⟨rfl, rfl⟩ | ⟨⟨q, z, rfl⟩, rfl⟩ <;> simp [run_underlying hu]
theorem run_eqlNilI {t u : TypeId} {x : Operand} {v : Value} {b : Bool} {dst : Option Nat} {ty : TypeId} {pos : String} {aft : Array Edge} (hu : ∃ ms, P.underlying t = some (.interface ms)) (hx : ev T x = some v) (hv : (v = .nilIface ∧ b = true) ∨ ((∃ q z, v = .iface q z) ∧ b = false)) :
    Run P n D T w ⟨dst, .binOp .eql t x (.const .nilIface) u, ty, pos, aft, none⟩ (.bool b) w := fun c f => by
  have h1 := f.ev hx
  have h2 : c.eval (.const .nilIface) = .nilIface := rfl
  have h3 := run_equalNilI (P := P) (w := w) hu hv
  simp only [execOp, h1, h2, Sem.run_bind]
  have h4 : (eqGuard .eql t x (.const .nilIface) v .nilIface).run P w = .ok () w := by
    rcases hv with ⟨rfl, _⟩ | ⟨⟨q, z, rfl⟩, _⟩ <;> simp [eqGuard]
  have h5 : (binOp .eql t v .nilIface).run P w = .ok (.bool b) w := by
    rcases hv with ⟨rfl, _⟩ | ⟨⟨q, z, rfl⟩, _⟩ <;> simp [binOp, h3]
  simp [h4, h5]
theorem run_typeAssertOk {t a : TypeId} {x : Operand} {v : Value} {d : TypeDesc} {dst : Option Nat} {ty : TypeId} {pos : String} {aft : Array Edge} (hu : P.underlying a = some d) (hd : ∀ ms, d ≠ .interface ms) (hx : ev T x = some (.iface a v)) : Run P n D T w ⟨dst, .typeAssert x t a true, ty, pos, aft, none⟩ (.tuple #[v, .bool true]) w := fun c f => by
  simp only [execOp, f.ev hx, Instr.typeAssert, Sem.run_bind, run_underlying hu, Result.andThen_ok]
  cases d <;> simp_all
end
end Go.Proofs.YtidoidoelgfnaaaGreatDoor.SL
