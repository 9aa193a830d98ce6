/- Regions that draw their order: an operation that yields the same in every world that meets S is taken first; what changes memory is run where it alone may come up. -/
import Derived.Test.YtidoidoelgfnaaaGreatDoorSl1M
import Derived.Test.YtidoidoelgfnaaaGreatDoorTb
namespace Go.Proofs.YtidoidoelgfnaaaGreatDoor.SL
open Go.RowKit
open Go.Proofs.YtidoidoelgfnaaaGreatDoorW.PrintLast
set_option linter.unusedVariables false
section
variable {P : Program} {n : Nat} {D : List Deferred} {T : Tm} {w : World} {Q : Exit → Act → World → Prop} {ops : Array Oper} {S : World → Prop} {ds : List Nat}
def btl : Nat → Nat → List Bool
  | 0, _ => []
  | n + 1, k => (k % 2 == 1) :: btl n (k / 2)
/-- What is done of n operations, as a number's bits. -/
def bt (n k : Nat) : Array Bool := (btl n k).toArray
/-- A panic's exit does not look at temporaries. -/
def PQ (Q : Exit → Act → World → Prop) : Prop := ∀ c a d v w, Q (.panic c) (a.put d v) w → Q (.panic c) a w
theorem PQ.then {K : Act → World → Prop} (h : PQ Q) : PQ (Exit.then K Q) := h
theorem PQ.blk {id : Nat} (h : PQ Q) : PQ (Exit.inBlock id Q) := h
theorem PQ.body {fn : Func} {R : Ending → World → Prop} : PQ (bodyPost P fn R) := fun c a d v w h => by cases d <;> exact h
def WD (P : Program) (n : Nat) (D : List Deferred) (ops : Array Oper) (Q : Exit → Act → World → Prop) (S : World → Prop) (ds : List Nat) (m : Nat) (l : Array Bool) (T : Tm) (w : World) : Prop :=
  ∀ a, Fits n D T a → wpAnyLast P .any ops Q S ds m l a w
theorem WD.start {id m : Nat} {B : World} {L : List HP} (S : World → Prop) (ds : List Nat) (l : Array Bool) (hm : P.follows .mixedOrders = true) (hn : ops.size = m) (hl : Array.replicate m false = l) (hS : St B L w) (hs : ∀ w', St B L w' → S w')
    (h : ∀ w', St B L w' → S w' → WD P n D ops Q S ds m l T w') : WP P n D (.region id ops true) Q T w := fun a f =>
  start_ l hm hn hl (hs _ hS.drew) (fun h1 => h w.drew hS.drew h1 a f)
variable {i m d j t : Nat} {o : Oper} {v : Value} {b c : Bool} {op : Op} {ty : TypeId} {pos : String} {aft : Array Edge} {l : Array Bool} {tab : Bool × List (List Nat × List Nat)}
theorem WD.pure (ht : rtab .any ops = tab) (l' : Array Bool) (hi : ops[i]? = some o) (hd : o.dst = some d) (hg : o.guard = none) (hc : anyT tab l.toList l'.toList i = true) (hQ : PQ Q) (hn : Nat.blt d n = true)
    (hr : ∀ w, Run P n D T w o v w) (h : WD P n D ops Q S ds m l' ((d, v) :: T) w) : WD P n D ops Q S ds (m + 1) l T w := fun a f =>
  pure_ l' hi hd (any_of ht hc) (fun c a w h => hQ c a o.dst v w h) (.inl ⟨by simp [Region.wanted, hg], fun w' => hr w' a f⟩) rfl (h _ (f.put d v hn))
theorem WD.take (ht : rtab .any ops = tab) (l' : Array Bool) (hs : S w) (hi : ops[i]? = some o) (hd : o.dst = some d) (hg : o.guard = none) (hc : takeT tab ds l.toList l'.toList i = true) (hQ : PQ Q) (hn : Nat.blt d n = true)
    (hr : ∀ w, S w → Run P n D T w o v w) (h : WD P n D ops Q S ds m l' ((d, v) :: T) w) : WD P n D ops Q S ds (m + 1) l T w := fun a f =>
  take_ l' hi hd (take_of ht hc) (fun c a w h => hQ c a o.dst v w h) (.inl ⟨by simp [Region.wanted, hg], fun w' hw' => hr w' hw' a f⟩) hs rfl (h _ (f.put d v hn))
/-- The same for an operation whose guard says yes. -/
theorem WD.pureOn (ht : rtab .any ops = tab) (l' : Array Bool) (hi : ops[i]? = some ⟨some d, op, ty, pos, aft, some (j, b)⟩)
    (hj : (ops[j]?).bind (·.dst) = some t) (hl : look T t = some (.bool c)) (e : c = b) (hc : anyT tab l.toList l'.toList i = true) (hQ : PQ Q) (hn : Nat.blt d n = true)
    (hr : ∀ w, Run P n D T w ⟨some d, op, ty, pos, aft, none⟩ v w) (h : WD P n D ops Q S ds m l' ((d, v) :: T) w) : WD P n D ops Q S ds (m + 1) l T w := fun a f =>
  pure_ l' hi rfl (any_of ht hc) (fun c a w h => hQ c a (some d) v w h) (.inl ⟨by subst e; simp only [Region.wanted, yielded_ok f hj hl, beq_self_eq_true], fun w' => hr w' a f⟩) rfl (h _ (f.put d v hn))
theorem WD.takeOn (ht : rtab .any ops = tab) (l' : Array Bool) (hs : S w) (hi : ops[i]? = some ⟨some d, op, ty, pos, aft, some (j, b)⟩)
    (hj : (ops[j]?).bind (·.dst) = some t) (hl : look T t = some (.bool c)) (e : c = b) (hc : takeT tab ds l.toList l'.toList i = true) (hQ : PQ Q) (hn : Nat.blt d n = true)
    (hr : ∀ w, S w → Run P n D T w ⟨some d, op, ty, pos, aft, none⟩ v w) (h : WD P n D ops Q S ds m l' ((d, v) :: T) w) : WD P n D ops Q S ds (m + 1) l T w := fun a f =>
  take_ l' hi rfl (take_of ht hc) (fun c a w h => hQ c a (some d) v w h) (.inl ⟨by subst e; simp only [Region.wanted, yielded_ok f hj hl, beq_self_eq_true], fun w' hw' => hr w' hw' a f⟩) hs rfl (h _ (f.put d v hn))
theorem WD.off (ht : rtab .any ops = tab) (l' : Array Bool) (hi : ops[i]? = some ⟨some d, op, ty, pos, aft, some (j, b)⟩)
    (hj : (ops[j]?).bind (·.dst) = some t) (hl : look T t = some (.bool c)) (e : c = !b) (hc : anyT tab l.toList l'.toList i = true) (hQ : PQ Q) (hn : Nat.blt d n = true)
    (h : WD P n D ops Q S ds m l' ((d, undef) :: T) w) : WD P n D ops Q S ds (m + 1) l T w := fun a f =>
  pure_ l' hi rfl (any_of ht hc) (fun c a w h => hQ c a (some d) undef w h) (.inr ⟨by subst e; simp only [Region.wanted, yielded_ok f hj hl]; cases b <;> rfl, rfl⟩) rfl (h _ (f.put d undef hn))
theorem WD.offU (ht : rtab .any ops = tab) (l' : Array Bool) (hi : ops[i]? = some ⟨some d, op, ty, pos, aft, some (j, b)⟩)
    (hj : (ops[j]?).bind (·.dst) = some t) (hl : look T t = some undef) (hc : anyT tab l.toList l'.toList i = true) (hQ : PQ Q) (hn : Nat.blt d n = true)
    (h : WD P n D ops Q S ds m l' ((d, undef) :: T) w) : WD P n D ops Q S ds (m + 1) l T w := fun a f =>
  pure_ l' hi rfl (any_of ht hc) (fun c a w h => hQ c a (some d) undef w h) (.inr ⟨by simp only [Region.wanted, yielded_un f hj hl]; rfl, rfl⟩) rfl (h _ (f.put d undef hn))
/-- What must hold behind an operation that was run. -/
def KD (P : Program) (ops : Array Oper) (Q : Exit → Act → World → Prop) (S : World → Prop) (ds : List Nat) (m : Nat) (l : Array Bool) (i : Nat) (w : World) (a' : Act) (w' : World) : Prop := (i ∉ ds → S w → S w') ∧ wpAnyLast P .any ops Q S ds m l a' w'
theorem wpOp_of_list {K : Act → World → Prop} {a : Act} {w : World} (hi : ops[i]? = some o) (h : wpList P ops (Exit.then K Q) [o] a w) : wpOp P ops Q i K a w := by
  unfold wpOp
  rw [hi]
  unfold wpList at h
  show if Region.wanted o (yielded ops a.tmps) = true then _ else _
  split
  · rename_i hw
    rw [if_pos hw] at h
    rcases h with h | h
    · refine .inl ?_
      unfold Oper.wp at h ⊢
      generalize (execOp a.eval o).run P w = r at h ⊢
      cases r with
      | ok x w' => cases x <;> exact h
      | halt x w' => cases x <;> exact h
    · exact .inr h
  · rename_i hw
    rw [if_neg hw] at h
    exact h
/-- One operation alone may come up: it is run by the rule for a plain row. -/
theorem WD.one (ht : rtab .any ops = tab) (l' : Array Bool) (hi : ops[i]? = some o) (hc : (readyT tab.2 l.toList == [i] && (l.toList.set i true == l'.toList)) = true)
    (h : WO P n D ops (Exit.then (KD P ops Q S ds m l' i w) Q) [o] T w) : WD P n D ops Q S ds (m + 1) l T w := fun a f => by
  simp only [Bool.and_eq_true, beq_iff_eq] at hc
  have hl : l.setIfInBounds i true = l' := by apply Array.ext'; rw [Array.toList_setIfInBounds]; exact hc.2
  refine wpAnyLast_all (rs := [i]) (by subst ht; rw [ready_eq]; exact hc.1) (by simp) fun k hk => ?_
  obtain rfl : k = i := by simpa using hk
  rw [hl]
  exact wpOp_of_list hi (h a f)
/-- One of two may come up. -/
theorem WD.two {k : Nat} {o2 : Oper} (ht : rtab .any ops = tab) (l' l'' : Array Bool) (hi : ops[i]? = some o) (hk : ops[k]? = some o2) (hc : (readyT tab.2 l.toList == [i, k] && (l.toList.set i true == l'.toList) && (l.toList.set k true == l''.toList)) = true)
    (h : WO P n D ops (Exit.then (KD P ops Q S ds m l' i w) Q) [o] T w) (h2 : WO P n D ops (Exit.then (KD P ops Q S ds m l'' k w) Q) [o2] T w) : WD P n D ops Q S ds (m + 1) l T w := fun a f => by
  simp only [Bool.and_eq_true, beq_iff_eq] at hc
  have hl : l.setIfInBounds i true = l' := by apply Array.ext'; rw [Array.toList_setIfInBounds]; exact hc.1.2
  have hl2 : l.setIfInBounds k true = l'' := by apply Array.ext'; rw [Array.toList_setIfInBounds]; exact hc.2
  refine wpAnyLast_all (rs := [i, k]) (by subst ht; rw [ready_eq]; exact hc.1.1) (by simp) fun q hq => ?_
  simp only [List.mem_cons, List.not_mem_nil, or_false] at hq
  rcases hq with rfl | rfl
  · rw [hl]; exact wpOp_of_list hi (h a f)
  · rw [hl2]; exact wpOp_of_list hk (h2 a f)
theorem NX.held {w0 : World} (hs : S w) (h : WD P n D ops Q S ds m l T w) : NX n D (Exit.then (KD P ops Q S ds m l i w0) Q) .normal T w := fun a f => ⟨fun _ _ => hs, h a f⟩
theorem NX.last {w0 : World} (hd : ds.contains i = true) (h : WD P n D ops Q S ds m l T w) : NX n D (Exit.then (KD P ops Q S ds m l i w0) Q) .normal T w := fun a f => ⟨fun hn => absurd (by simpa using hd) hn, h a f⟩
theorem WD.done (ht : rtab .any ops = tab) (hc : (readyT tab.2 l.toList == []) = true) (h : NX n D Q .normal T w) : WD P n D ops Q S ds m l T w := fun a f => by
  subst ht
  exact done_ (by rw [ready_eq]; exact hc) (h a f)
end
end Go.Proofs.YtidoidoelgfnaaaGreatDoor.SL
