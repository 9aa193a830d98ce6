/- Ranges over a function: rounds and iterators. -/
import Derived.Test.YtidoidoelgfnaaaGreatDoorSl12
import Derived.RangeFuncRecord
import Derived.OrdersIn
import Derived.TacticsIn
namespace Go.Proofs.YtidoidoelgfnaaaGreatDoor.SL
open Go.RowKit
open Go.Proofs.YtidoidoelgfnaaaGreatDoorW.PrintLast
set_option linter.unusedVariables false
set_option linter.unusedSimpArgs false
/-- All functions may be entered; the frames are of a round, or of none. -/
def FR (r : Option Nat) : Fence := { Fence.wide with round := r }
theorem FR.flat (r : Option Nat) : (FR r).depth.isSome = true → 1 ≤ 0 := fun h => by cases h
section
variable {P : Program} {n : Nat} {D : List Deferred} {Q : Exit → Act → World → Prop} {T : Tm} {w : World} {ops : Array Oper} {rest : List Oper} {r : Option Nat} {B : World} {L : List HP}
theorem callsR {m : Nat} {f : FuncId} {args : Array Value} {R : Ending → World → Prop} (h : Calls P f args w R) : CallsIn (FR r) m P f args w R := (callsIn_wide.2 h : CallsIn Fence.wide m P f args w R)
theorem rowsR {m : Nat} {row : String} {args : Array Value} {R : Value → World → Prop} (h : Rows P row args w R) : RowsIn (FR r) m P row args w R := fun c cs _ => by
  obtain ⟨v, w', q, s⟩ := h c cs
  exact ⟨v, w', q, stepsIn_wide.2 s⟩
def noDefer (o : Oper) : Bool := match o.op with
  | .defer _ => false
  | _ => true
theorem wpIn_of_op {o : Oper} {a : Act} {K K' : Act → World → Prop} (ho : noDefer o = true) (hK : ∀ a w, K a w → K' a w) (h : o.wp P a w K Q) : o.wpIn (FR r) 0 P a w K' Q := by
  refine ⟨fun _ _ => trivial, ?_⟩
  have e : o.semAt (FR r).round a.eval = execOp a.eval o := Oper.semAt_eq _ _ _ fun c hc => by unfold noDefer at ho; rw [hc] at ho; cases ho
  rw [e]
  unfold Oper.wp at h
  generalize (execOp a.eval o).run P w = res at h ⊢
  cases res with
  | ok x w' =>
    cases x with
    | value v => exact hK _ _ h
    | skip => exact hK _ _ h
    | defer d => exact hK _ _ h
    | enter f args => exact ⟨FR.flat r, callsR (Calls.mono h fun e w'' he => by cases e <;> first | exact hK _ _ he | exact he)⟩
    | row q args => exact ⟨FR.flat r, rowsR (Rows.mono h fun _ _ he => hK _ _ he)⟩
    | _ => exact h.elim
  | halt x w' => cases x <;> exact h
theorem wpListIn_of (hq : ¬ LetsOut Q) : ∀ {l : List Oper} {a : Act} {w : World}, l.all noDefer = true → wpList P ops Q l a w → wpListIn (FR r) 0 P ops Q l a w
  | [], _, _, _, h => h
  | o :: l, a, w, hd, h => by
    rw [List.all_cons, Bool.and_eq_true] at hd
    unfold wpList at h
    unfold wpListIn
    split
    · rename_i hw
      rw [if_pos hw] at h
      rcases h with h | h
      · exact wpIn_of_op hd.1 (fun a w => wpListIn_of hq hd.2) h
      · exact absurd h.2 hq
    · rename_i hw
      rw [if_neg hw] at h
      exact ⟨fun _ _ => trivial, wpListIn_of hq hd.2 h⟩
theorem wpAnyIn_of (hq : ¬ LetsOut Q) (hd : ops.toList.all noDefer = true) : ∀ (fuel : Nat) (listed : Array Bool) (a : Act) (w : World), wpAny P .any ops Q fuel listed a w → wpAnyIn (FR r) 0 P .any ops Q fuel listed a w
  | 0, _, _, _, h => h
  | fuel + 1, listed, a, w, h => ⟨h.1, fun i hi => by
    have h1 := h.2 i hi
    unfold wpOp at h1
    unfold wpOpIn
    cases ho : ops[i]? with
    | none => rw [ho] at h1; exact wpAnyIn_of hq hd fuel _ a w h1
    | some o =>
      rw [ho] at h1
      have hno : noDefer o = true := by
        have hm : o ∈ ops.toList := by
          rw [Array.mem_toList_iff]; exact Array.mem_of_getElem? ho
        exact List.all_eq_true.1 hd o hm
      simp only at h1 ⊢
      split
      · rename_i hw
        rw [if_pos hw] at h1
        rcases h1 with h1 | h1
        · exact wpIn_of_op hno (fun a w => wpAnyIn_of hq hd fuel _ a w) h1
        · exact absurd h1.2 hq
      · rename_i hw
        rw [if_neg hw] at h1
        exact ⟨fun _ _ => trivial, wpAnyIn_of hq hd fuel _ _ w h1⟩⟩
/-! Exits that are not let out. -/
theorem NoOut.then {K : Act → World → Prop} (h : ¬ LetsOut Q) : ¬ LetsOut (Exit.then K Q) := h
theorem NoOut.blk {id : Nat} (h : ¬ LetsOut Q) : ¬ LetsOut (Exit.inBlock id Q) := h
theorem NoOut.round {l : Nat} {R : Ending → World → Prop} : ¬ LetsOut (roundPost P l R) := fun ⟨_, _, h⟩ => h
theorem NoOut.body {fn : Func} {Φ : Value → World → Prop} : ¬ LetsOut (bodyPost P fn (SL.ret Φ)) := fun ⟨_, _, v, e, _⟩ => by cases e
theorem NoOut.marks {fn : Func} {Φ : Value → World → Prop} : ¬ LetsOut (bodyPostM (FR none) 0 P fn (SL.ret Φ)) := fun ⟨_, _, v, e, _⟩ => by cases e
def FF : Exit → Act → World → Prop := fun _ _ _ => False
theorem NoOut.ff : ¬ LetsOut FF := fun ⟨_, _, h⟩ => h
theorem PQ.round {l : Nat} {R : Ending → World → Prop} : PQ (roundPost P l R) := fun c a d v w h => h
/-! Code. -/
def WPR (r : Option Nat) (P : Program) (n : Nat) (D : List Deferred) (c : Code) (Q : Exit → Act → World → Prop) (T : Tm) (w : World) : Prop := ∀ a, Fits n D T a → c.wpIn (FR r) 0 P Q a w
def WOR (r : Option Nat) (P : Program) (n : Nat) (D : List Deferred) (ops : Array Oper) (Q : Exit → Act → World → Prop) (l : List Oper) (T : Tm) (w : World) : Prop := ∀ a, Fits n D T a → wpListIn (FR r) 0 P ops Q l a w
theorem WPR.seq {x y : Code} (h : WPR r P n D x (Exit.then (y.wpIn (FR r) 0 P Q) Q) T w) : WPR r P n D (.seq x y) Q T w := fun a f => wpIn_seq (h a f)
theorem NX.goR {y : Code} (h : WPR r P n D y Q T w) : NX n D (Exit.then (y.wpIn (FR r) 0 P Q) Q) .normal T w := h
theorem WPR.region {id : Nat} {l : List Oper} (hl : ops.toList = l) (hq : ¬ LetsOut Q) (hd : l.all noDefer = true) (h : WO P n D ops Q l T w) : WPR r P n D (.region id ops false) Q T w := fun a f => wpIn_region_list (by rw [hl]; exact wpListIn_of hq hd (h a f))
theorem WPR.regionR {id : Nat} {l : List Oper} (hl : ops.toList = l) (h : WOR r P n D ops Q l T w) : WPR r P n D (.region id ops false) Q T w := fun a f => wpIn_region_list (by rw [hl]; exact h a f)
theorem WPR.start {id m : Nat} (S : World → Prop) (ds : List Nat) (l : Array Bool) (hm : P.follows .mixedOrders = true) (hn : ops.size = m) (hl : Array.replicate m false = l) (hq : ¬ LetsOut Q) (hd : ops.toList.all noDefer = true) (hS : St B L w) (hs : ∀ w', St B L w' → S w')
    (h : ∀ w', St B L w' → S w' → WD P n D ops Q S ds m l T w') : WPR r P n D (.region id ops true) Q T w := fun a f => by
  subst hn; subst hl
  exact wpIn_region_any hm (wpAnyIn_of hq hd _ _ _ _ (wpAny_of_last _ _ _ _ (h w.drew hS.drew (hs _ hS.drew) a f)))
theorem WPR.skip (h : NX n D Q .normal T w) : WPR r P n D .skip Q T w := fun a f => wpIn_skip (h a f)
theorem WPR.ret (h : NX n D Q .ret T w) : WPR r P n D .ret Q T w := fun a f => wpIn_ret (h a f)
theorem WPR.exit {id : Nat} (h : NX n D Q (.exit id) T w) : WPR r P n D (.exit id) Q T w := fun a f => wpIn_exit (h a f)
theorem WPR.block {id : Nat} {c : Code} (h : WPR r P n D c (Exit.inBlock id Q) T w) : WPR r P n D (.block id c) Q T w := fun a f => wpIn_block (h a f)
theorem WPR.condB {c : Operand} {x y : Code} {t : Bool} (hc : ev T c = some (.bool t)) (h1 : t = true → WPR r P n D x Q T w) (h2 : t = false → WPR r P n D y Q T w) : WPR r P n D (.cond c x y) Q T w :=
  fun a f => wpIn_cond_split (f.ev hc) (fun e => h1 e a f) (fun e => h2 e a f)
theorem WPR.condT {c : Operand} {x y : Code} {t : Bool} (hc : ev T c = some (.bool t)) (e : t = true) (h : WPR r P n D x Q T w) : WPR r P n D (.cond c x y) Q T w :=
  .condB hc (fun _ => h) (fun e' => by rw [e] at e'; cases e')
theorem WPR.condF {c : Operand} {x y : Code} {t : Bool} (hc : ev T c = some (.bool t)) (e : t = false) (h : WPR r P n D y Q T w) : WPR r P n D (.cond c x y) Q T w :=
  .condB hc (fun e' => by rw [e] at e'; cases e') (fun _ => h)
theorem WPR.condP {c : Operand} {x y : Code} {p : Prop} [Decidable p] (hc : ev T c = some (.bool (decide p))) (h1 : p → WPR r P n D x Q T w) (h2 : ¬ p → WPR r P n D y Q T w) : WPR r P n D (.cond c x y) Q T w :=
  .condB hc (fun e => h1 (of_decide_eq_true e)) (fun e => h2 (of_decide_eq_false e))
/-- A loop's body, and behind it the loop again. -/
def LWR (r : Option Nat) (P : Program) (c : Code) (Q : Exit → Act → World → Prop) (a : Act) (w : World) : Prop :=
  ∀ (b : Frame) (k : List Item) (cs : List Frame), b.roundOf = (FR r).round → (FR r).fn b.fn → (FR r).room (cs.length + 1 + 0) →
    ∃ e a' w', Q e a' w' ∧ ArrivesIn (Machine.fenced P (FR r)) P (lone (b.atR a (.code c :: .inLoop c :: k)) cs w) b k cs e a' w'
theorem LWR.loop {c : Code} {a : Act} (h : LWR r P c Q a w) : (Code.loop c).wpIn (FR r) 0 P Q a w := fun b k cs hro hb hr => by
  obtain ⟨e, a', w', hq, harr⟩ := h b k cs hro hb hr
  exact ⟨e, a', w', hq, .of_steps (.one (fenced_calm hb hr rfl) stepR_loop) harr⟩
theorem LWR.round {c : Code} {a : Act} (h : c.wpIn (FR r) 0 P (Exit.then (LWR r P c Q) Q) a w) : LWR r P c Q a w := fun b k cs hro hb hr => by
  obtain ⟨e, a₁, w₁, hq, harr⟩ := h b (.inLoop c :: k) cs hro hb hr
  cases e with
  | normal =>
    obtain ⟨e₂, a₂, w₂, hq₂, harr₂⟩ := hq b k cs hro hb hr
    exact ⟨e₂, a₂, w₂, hq₂, .of_steps (StepsIn.trans harr (.one (fenced_calm hb hr rfl) stepR_inLoop)) harr₂⟩
  | exit id => exact ⟨_, a₁, w₁, hq, .pass (x := .inLoop c) rfl (fun _ _ => .inl (by simp)) harr⟩
  | goto l => exact ⟨_, a₁, w₁, hq, .pass (x := .inLoop c) rfl (fun _ _ => .inl (by simp)) harr⟩
  | ret => exact ⟨_, a₁, w₁, hq, .pass (x := .inLoop c) rfl (fun _ _ => .inl (by simp)) harr⟩
  | panic ch => exact ⟨_, a₁, w₁, hq, .pass (x := .inLoop c) rfl (fun _ _ => .inl (by simp)) harr⟩
  | outgrown => exact ⟨_, a₁, w₁, hq, .pass (x := .inLoop c) rfl (fun _ _ => .inl (by simp)) harr⟩
theorem WPR.loop {α : Type} {c : Code} (H : α → Tm) (I : α → World → Prop) (μ : α → Nat) (x0 : α) (h0 : I x0 w) (s : Sub T (H x0))
    (round : ∀ x w, I x w → WPR r P n D c (Exit.then (Again n D H I μ x) Q) (H x) w) : WPR r P n D (.loop c) Q T w := fun a f => by
  have key : ∀ m x a w, μ x = m → I x w → Fits n D (H x) a → LWR r P c Q a w := by
    intro m
    induction m using Nat.strongRecOn with
    | _ m ih =>
      intro x a w hm hI hf
      refine LWR.round (wpIn_mono (round x w hI a hf) fun e a' w' q => ?_)
      cases e with
      | normal => obtain ⟨y, hlt, hI', hf'⟩ := q; exact ih (μ y) (hm ▸ hlt) y a' w' rfl hI' hf'
      | _ => exact q
  exact LWR.loop (key _ x0 a w rfl h0 (f.sub s))
/-! Functions. -/
theorem enterR {f : FuncId} {fn : Func} {c : Code} {R : Ending → World → Prop} (hf : P.funcs[f]? = some fn) (hb : fn.body = some c) (hn : fn.ntmps = n) (args : List Value) (hlen : Nat.ble args.length n = true)
    (h : WPR none P n [] c (bodyPost P fn R) (idx 0 args) w) : Calls P f args.toArray w R := by
  refine (callsIn_wide (n := 0)).1 (callsIn_of_wp hf hb trivial (h _ ⟨?_, rfl, fun i v e => ?_⟩))
  · have := Nat.le_of_ble_eq_true hlen
    simp only [Array.size_append, List.size_toArray, Array.size_replicate, hn]; omega
  · obtain ⟨_, h2⟩ := look_idx args 0 i v e
    rw [Nat.sub_zero] at h2
    have hlt := (List.getElem?_eq_some_iff.1 h2).1
    rw [Array.getElem?_append_left (by simpa using hlt)]
    simpa using h2
/-- A function that holds a range over a function. -/
theorem enterM {f : FuncId} {fn : Func} {c : Code} {R : Ending → World → Prop} (hf : P.funcs[f]? = some fn) (hb : fn.body = some c) (hn : fn.ntmps = n) (args : List Value) (hlen : Nat.ble args.length n = true)
    (h : WPR none P n [] c (bodyPostM (FR none) 0 P fn R) (idx 0 args) w) : Calls P f args.toArray w R := by
  refine (callsIn_wide (n := 0)).1 (callsIn_of_wp_marks (F := FR none) hf hb trivial (h _ ⟨?_, rfl, fun i v e => ?_⟩))
  · have := Nat.le_of_ble_eq_true hlen
    simp only [Array.size_append, List.size_toArray, Array.size_replicate, hn]; omega
  · obtain ⟨_, h2⟩ := look_idx args 0 i v e
    rw [Nat.sub_zero] at h2
    have hlt := (List.getElem?_eq_some_iff.1 h2).1
    rw [Array.getElem?_append_left (by simpa using hlt)]
    simpa using h2
theorem St.putObj {g : Nat} {o o' : Obj} (h : St B (.blk g o :: L) w) : St B (.blk g o' :: L) (w.putObj g o') :=
  h.write (fun k hk => World.putObj_heap_other hk) (World.putObj_heap_same h.lt) rfl rfl rfl
theorem St.putObj_i {g : Nat} {o o' : Obj} (i : Nat) (h : St B L w) (hi : nth L i = some (.blk g o)) : St B (put L i (.blk g o')) (w.putObj g o') := St.unfocus hi (St.putObj (h.focus i hi))
/-- It leaves, with a mark. -/
theorem NX.doneM {fn : Func} {Φ : Value → World → Prop} {l : List ResultVar} {vs : List Value} {g : Nat} (i : Nat) (hS : St B L w) (hi : nth L i = some (.blk g (.deferred (some [])))) (hr : fn.results = l.toArray) (ht : outs T l = some vs)
    (h : ∀ w', St B (put L i (.blk g (.deferred none))) w' → Φ (one vs) w') : NX n [⟨.collected g, #[]⟩] (bodyPostM (FR none) 0 P fn (SL.ret Φ)) .ret T w := fun a f => by
  show LeavesInM (FR none) 0 P fn a.tmps (SL.ret Φ) a.defers .returning w
  rw [f.defs]
  refine ⟨by simp, .inl ⟨g, w.putObj g (.deferred none), rfl, run_takeDeferred (hS.focus i hi).at, ?_⟩⟩
  exact ⟨_, results_ok (P := P) (w := w.putObj g (.deferred none)) f hr ht, _, rfl, h _ (hS.putObj_i i hi)⟩
/-! The loop's record. -/
structure RecOk (rec : Loop) (n : Nat) (T : Tm) (p : Tmp) (assign body : Code) : Prop where
  ready : rec.state = .ready
  pend : rec.pending = none
  par : rec.params = #[p]
  asg : rec.assign = assign
  bod : rec.body = body
  size : rec.tmps.size = n
  out : ∀ i v, look T i = some v → rec.tmps[i]? = some v
/-- A call of yield. -/
def YDoes (P : Program) (l : Nat) (vs : List Value) (w : World) (Φ : Value → World → Prop) : Prop := ∃ f tmps assign body, (Instr.yield l vs.toArray).run P w = .ok (.round l f tmps assign body) w ∧ RoundIn (FR none) 0 P l f tmps assign body w (SL.ret Φ)
def KR (P : Program) (l : Nat) (body : Code) (R : Ending → World → Prop) : Act → World → Prop := fun a₁ w₁ => ∃ w₂, (Instr.beginRound l).run P w₁ = .ok () w₂ ∧ body.wpIn (FR (some l)) 0 P (roundPost P l R) a₁ w₂
theorem RecOk.yield {rec : Loop} {p : Tmp} {assign body : Code} {l : Nat} {Φ : Value → World → Prop} (hr : RecOk rec n T p assign body) (i : Nat) (hS : St B L w) (hi : nth L i = some (.blk l (.loop rec))) (hp : Nat.blt p n = true) (v : Value)
    (h : WPR (some l) P n [] assign (Exit.then (KR P l body (SL.ret Φ)) FF) ((p, v) :: T) w) : YDoes P l [v] w Φ := by
  have hat := (hS.focus i hi).at
  refine ⟨rec.fn, _, rec.assign, rec.body, run_yield (args := #[v]) hat (by rw [hr.par]; rfl), ?_⟩
  have h0 : Fits n [] T ⟨rec.tmps, []⟩ := ⟨hr.size, rfl, hr.out⟩
  have h1 := h0.put p v hp
  have e1 : (rec.params.zip #[v]).foldl (fun tmps (x : Tmp × Value) => tmps.setIfInBounds x.1 x.2) rec.tmps = rec.tmps.setIfInBounds p v := by rw [hr.par]; simp
  refine roundIn_of_wpIn (F := FR none) trivial ?_
  have h2 := h _ h1
  rw [hr.asg, hr.bod]
  have e2 : ({ tmps := (rec.params.zip #[v]).foldl (fun tmps (x : Tmp × Value) => tmps.setIfInBounds x.1 x.2) rec.tmps, defers := [] } : Act) = (⟨rec.tmps, []⟩ : Act).put (some p) v := by rw [e1]; rfl
  exact e2 ▸ h2
/-- A round begins. -/
theorem NX.begin {rec : Loop} {l : Nat} {body : Code} {R : Ending → World → Prop} (i : Nat) (hS : St B L w) (hi : nth L i = some (.blk l (.loop rec))) (hr : rec.state = .ready)
    (h : ∀ w', St B (put L i (.blk l (.loop { rec with state := .busy }))) w' → WPR (some l) P n D body (roundPost P l R) T w') : NX n D (Exit.then (KR P l body R) Q) .normal T w := fun a f =>
  ⟨_, run_beginRound (hS.focus i hi).at hr, h _ (hS.putObj_i i hi) a f⟩
/-- And ends. -/
theorem NX.roundEnd {rec : Loop} {l : Nat} {Φ : Value → World → Prop} (i : Nat) (hS : St B L w) (hi : nth L i = some (.blk l (.loop { rec with state := .busy }))) (hp : rec.pending = none) (hr : rec.state = .ready)
    (h : ∀ w', St B (put L i (.blk l (.loop rec))) w' → Φ (.bool true) w') : NX n D (roundPost P l (SL.ret Φ)) .normal T w := fun a f => by
  have e : ({ ({ rec with state := .busy } : Loop) with state := if (none : Option Code).isNone then .ready else .done, pending := none } : Loop) = rec := by
    obtain ⟨s, pe, fn, t, ps, as, bo, de⟩ := rec
    simp only at hp hr
    subst hp; subst hr; rfl
  have h1 := run_endRound (P := P) none (hS.focus i hi).at
  rw [e] at h1
  exact ⟨_, _, h1, _, rfl, h _ (hS.putObj_i i hi)⟩
/-- The iterator calls yield. -/
theorem WOR.yield {d : Nat} {x : Operand} {as : Array Operand} {ts : Array TypeId} {ty : TypeId} {pos : String} {aft : Array Edge} {l : Nat} {vs : List Value} {Φ : Value → World → Prop}
    (hx : ev T x = some (.func (.yield l) #[] #[])) (ha : evs T as.toList = some vs) (hn : Nat.blt d n = true) (hc : YDoes P l vs w Φ)
    (h : ∀ v w', Φ v w' → WOR none P n D ops Q rest ((d, v) :: T) w') : WOR none P n D ops Q (⟨some d, .call ⟨.value x, as, ts⟩, ty, pos, aft, none⟩ :: rest) T w :=
  fun a fi => wpListIn_plain rfl fun K hK => by
    have h1 := fi.ev hx
    have h2 : as.map a.eval = vs.toArray := by
      have := fi.evs ha
      rw [← this]; apply Array.ext'; simp
    obtain ⟨f, tmps, assign, body, hy, hr⟩ := hc
    have hrun : (execOp a.eval ⟨some d, .call ⟨.value x, as, ts⟩, ty, pos, aft, none⟩).run P w = .ok (.round l f tmps assign body) w := by
      simp [execOp, resolve, Deferred.ofValue, h1, h2, invoke, hy]
    refine ⟨fun _ _ => trivial, ?_⟩
    have e : Oper.semAt (FR none).round a.eval ⟨some d, .call ⟨.value x, as, ts⟩, ty, pos, aft, none⟩ = execOp a.eval ⟨some d, .call ⟨.value x, as, ts⟩, ty, pos, aft, none⟩ := rfl
    rw [e, hrun, Oper.uponIn_round]
    refine ⟨FR.flat none, RoundIn.mono hr fun e w'' hh => ?_⟩
    obtain ⟨v, rfl, hp⟩ := hh
    exact hK _ _ (h v w'' hp _ (fi.put d v hn))
theorem WOR.lift {l : List Oper} (hq : ¬ LetsOut Q) (hd : l.all noDefer = true) (h : WO P n D ops Q l T w) : WOR r P n D ops Q l T w := fun a f => wpListIn_of hq hd (h a f)
theorem WOR.mv {d : Nat} {x : Operand} {v : Value} {ty : TypeId} {pos : String} {aft : Array Edge} (hx : ev T x = some v) (hn : Nat.blt d n = true) (h : WOR r P n D ops Q rest ((d, v) :: T) w) : WOR r P n D ops Q (⟨some d, .move x, ty, pos, aft, none⟩ :: rest) T w :=
  fun a fi => wpListIn_plain rfl fun K hK => by
    refine ⟨fun _ _ => trivial, ?_⟩
    have e : Oper.semAt (FR r).round a.eval ⟨some d, .move x, ty, pos, aft, none⟩ = execOp a.eval ⟨some d, .move x, ty, pos, aft, none⟩ := Oper.semAt_eq _ _ _ fun c hc => by cases hc
    have hrun : (execOp a.eval ⟨some d, .move x, ty, pos, aft, none⟩).run P w = .ok (.value v) w := by simp [execOp, fi.ev hx]
    rw [e, hrun]
    exact hK _ _ (h _ (fi.put d v hn))
/-- The statement. -/
theorem WPR.rangeFunc {g : Operand} {gf : FuncId} {us cs : List Value} {p : Tmp} {ps : Array Tmp} {assign body : Code} (hg : ev T g = some (.func (.func gf) us.toArray cs.toArray)) (hF : Has P gf) (hps : ps = #[p]) (hS : St B L w)
    (hc : ∀ (b l : Nat) (rec : Loop) (w1 : World), RecOk rec n T p assign body → St B (.blk l (.loop rec) :: .blk b (.deferred (some [])) :: L) w1 →
      Does P gf (us ++ [.func (.yield l) #[] #[]] ++ cs) w1 (fun _ w2 => ∃ L2, St B (.blk l (.loop rec) :: L2) w2 ∧ ∀ w3, St B L2 w3 → NX n (⟨.collected b, #[]⟩ :: D) Q .normal T w3)) : WPR none P n D (.rangeFunc g ps assign body) Q T w := fun a f => by
  refine wpIn_rangeFunc fun fn _ => ?_
  obtain ⟨rec, hrec⟩ : ∃ rec : Loop, rec = { state := .ready, pending := none, fn, tmps := a.tmps, params := ps, assign, body, defers := w.heap.size } := ⟨_, rfl⟩
  have h1 := hS.new (.deferred (some [])) (w' := w.alloc (.deferred (some []))) rfl rfl rfl rfl
  have h2 := h1.new (.loop rec) (w' := (w.alloc (.deferred (some []))).alloc (.loop rec)) rfl rfl rfl rfl
  rw [World.size_alloc] at h2
  have hok : RecOk rec n T p assign body := by rw [hrec]; exact ⟨rfl, rfl, hps, rfl, rfl, f.size, f.out⟩
  have hD := hc w.heap.size (w.heap.size + 1) rec _ hok h2
  have e1 : (Instr.enterLoop fn a.tmps ps assign body none).run P w = .ok (w.heap.size + 1, [{ target := .collected w.heap.size, args := #[] }]) ((w.alloc (.deferred (some []))).alloc (.loop rec)) := by rw [hrec]; exact run_enterLoop_outer _ _ _ _ _
  generalize (w.alloc (.deferred (some []))).alloc (.loop rec) = w1 at h2 hD e1
  obtain ⟨l, hl⟩ : ∃ l, l = w.heap.size + 1 := ⟨_, rfl⟩
  obtain ⟨b, hb⟩ : ∃ b, b = w.heap.size := ⟨_, rfl⟩
  rw [← hl] at h2 hD e1
  rw [← hb] at h2 hD e1
  have e2 : (resolve a.eval (rangeCall g l) 0).run P w1 = .ok (⟨.fn (.func gf) cs.toArray, (us ++ [Value.func (Fn.yield l) #[] #[]]).toArray⟩ : Deferred) w1 := by
    have e4 : a.eval (.const (Value.func (Fn.yield l) #[] #[])) = Value.func (Fn.yield l) #[] #[] := rfl
    simp only [resolve, rangeCall, f.ev hg, Deferred.ofValue]
    simp [e4]
  have e3 : (invoke (.fn (.func gf) cs.toArray) (us ++ [Value.func (Fn.yield l) #[] #[]]).toArray).run P w1 = .ok (.enter gf (us ++ [Value.func (Fn.yield l) #[] #[]] ++ cs).toArray) w1 := by
    simp only [invoke, hF.out]; simp
  refine ⟨l, [{ target := .collected b, args := #[] }], w1, ⟨.fn (.func gf) cs.toArray, (us ++ [Value.func (Fn.yield l) #[] #[]]).toArray⟩, w1, gf, (us ++ [Value.func (Fn.yield l) #[] #[]] ++ cs).toArray, w1, e1, e2, fun _ _ => trivial, e3, FR.flat none, ?_⟩
  refine callsR (Calls.mono hD fun e w2 hh => ?_)
  obtain ⟨v, rfl, L2, hS2, hk⟩ := hh
  have hat := hS2.at
  refine ⟨none, _, by have := run_endLoop (P := P) hat (by rw [hok.ready]; exact fun h => by cases h); rw [hok.pend] at this; exact this, ?_⟩
  exact hk _ (St.putObj hS2).drop { a with defers := ⟨.collected b, #[]⟩ :: a.defers } ⟨f.size, by rw [f.defs], f.out⟩
end
end Go.Proofs.YtidoidoelgfnaaaGreatDoor.SL
