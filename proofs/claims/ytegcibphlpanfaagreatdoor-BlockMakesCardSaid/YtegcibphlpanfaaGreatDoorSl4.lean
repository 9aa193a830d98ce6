/- Rules for operations on memory: cells that are owned, slices that are owned or sealed. -/
import Derived.Test.YtegcibphlpanfaaGreatDoorSl3
namespace Go.Proofs.YtegcibphlpanfaaGreatDoor.SL
open Go.RowKit
set_option linter.unusedVariables false
set_option linter.unusedSimpArgs false
/-- No cell of the row may not be written. -/
def Free (fr : Nat × Nat) (m : Nat) : Prop := ∀ j, j < m → (decide (fr.1 ≤ j) && decide (j < fr.2)) = false
theorem free_none (m : Nat) : Free (0, 0) m := fun j _ => by simp
/-- An owned block with these cells. -/
def cel (g : Nat) (l : List Value) (t : TypeId) : HP := .ex fun fr : Nat × Nat => .sep (.pure (Free fr l.length)) (.blk g (.cells l.toArray t fr))
/-- A sealed block with these cells. -/
def scel (g : Nat) (l : List Value) (t : TypeId) : HP := .ex fun fr : Nat × Nat => .seal g (.cells l.toArray t fr)
variable {B w : World} {L : List HP}
theorem St.cel_open {g : Nat} {l : List Value} {t : TypeId} (h : St B (cel g l t :: L) w) : ∃ fr, Free fr l.length ∧ St B (.blk g (.cells l.toArray t fr) :: L) w := by
  obtain ⟨fr, h1⟩ := h.ex
  obtain ⟨h2, h3⟩ := h1.sep.pure
  exact ⟨fr, h2, h3⟩
theorem St.cel_shut {g : Nat} {l : List Value} {t : TypeId} {fr : Nat × Nat} (hf : Free fr l.length) (h : St B (.blk g (.cells l.toArray t fr) :: L) w) : St B (cel g l t :: L) w :=
  (St.join (St.addPure hf h)).give fr
theorem St.cel_seal {g : Nat} {l : List Value} {t : TypeId} (h : St B (cel g l t :: L) w) : St B (scel g l t :: L) w := by
  obtain ⟨fr, _, h1⟩ := h.cel_open
  exact h1.toSeal.give fr
theorem cell_row {w : World} {g : Nat} {l : List Value} {t : TypeId} {fr : Nat × Nat} (h : w.heap[g]? = some (.cells l.toArray t fr)) (j : Nat) : w.cell? ⟨g, j, none⟩ = l[j]? := by
  rw [cell_of_row w g j l.toArray t fr h]; simp
theorem St.cel_at {g : Nat} {l : List Value} {t : TypeId} (h : St B L w) (i : Nat) (hi : nth L i = some (cel g l t)) (j : Nat) : w.cell? ⟨g, j, none⟩ = l[j]? := by
  obtain ⟨fr, _, h1⟩ := (h.focus i hi).cel_open
  exact cell_row h1.at j
section
variable {P : Program} {n : Nat} {D : List Deferred} {T : Tm} {dst : Option Nat} {ty : TypeId} {pos : String} {aft : Array Edge}
/-- Is the type's value one of many cells? -/
def aggB (P : Program) (t : TypeId) : Option Bool := match P.underlying t with
  | some (.struct _) => some true
  | some (.array _ _) => some true
  | some _ => some false
  | none => none
theorem run_isAgg {t : TypeId} {b : Bool} (h : aggB P t = some b) (w : World) : (isAgg t).run P w = .ok b w := by
  unfold aggB at h
  cases hu : P.underlying t with
  | none => rw [hu] at h; cases h
  | some d =>
    simp only [isAgg, Sem.run_bind, run_underlying hu, Result.andThen_ok]
    rw [hu] at h
    cases d <;> cases h <;> rfl
def sizeB (P : Program) (t : TypeId) : Option Nat := (P.info? t).map (·.size)
theorem run_sizeOf {t : TypeId} {k : Nat} (h : sizeB P t = some k) (w : World) : (sizeOf t).run P w = .ok k w := by
  obtain ⟨j, hj, hk⟩ := Option.map_eq_some_iff.1 h
  simp [sizeOf, typeInfo, hj, hk]
theorem run_load {t : TypeId} {x : Operand} {p : Addr} {v : Value} (ha : aggB P t = some false) (hx : ev T x = some (.pointer (some p))) (hc : w.cell? p = some v) : Run P n D T w ⟨dst, .load t x, ty, pos, aft, none⟩ v w := fun c f => by
  simp [execOp, f.ev hx, Instr.loadAt, Instr.sureAddr, loadVar, run_isAgg ha, load, Sem.run, hc]
theorem run_loadCellsFrom {a : Addr} {vs : List Value} (h : ∀ j, j < vs.length → w.cell? (a.add j) = vs[j]?) : ∀ (m i : Nat) (acc : Array Value), i + m = vs.length → (loadCellsFrom a i m acc).run P w = .ok (acc ++ (vs.drop i).toArray) w
  | 0, i, acc, e => by
    have : vs.drop i = [] := List.drop_eq_nil_of_le (by omega)
    simp [loadCellsFrom, this]
  | m + 1, i, acc, e => by
    have hi : i < vs.length := by omega
    have hc : w.cell? (a.add i) = some vs[i] := by rw [h i hi, List.getElem?_eq_getElem hi]
    have hd : vs.drop i = vs[i] :: vs.drop (i + 1) := List.drop_eq_getElem_cons hi
    unfold loadCellsFrom
    simp only [Sem.run_bind, load, Sem.run, hc, Result.andThen_ok]
    rw [run_loadCellsFrom h m (i + 1) _ (by omega), hd]
    simp
theorem run_loadCells {a : Addr} {vs : List Value} {m : Nat} (hm : vs.length = m) (h : ∀ j, j < vs.length → w.cell? (a.add j) = vs[j]?) : (loadCells a m).run P w = .ok vs.toArray w := by
  unfold loadCells
  rw [run_loadCellsFrom h m 0 #[] (by omega)]
  simp
theorem run_loadAgg {t : TypeId} {x : Operand} {p : Addr} {k : Nat} {vs : List Value} (ha : aggB P t = some true) (hs : sizeB P t = some k) (hx : ev T x = some (.pointer (some p))) (hk : vs.length = k) (hc : ∀ j, j < vs.length → w.cell? (p.add j) = vs[j]?) : Run P n D T w ⟨dst, .load t x, ty, pos, aft, none⟩ (.agg vs.toArray) w := fun c f => by
  simp [execOp, f.ev hx, Instr.loadAt, Instr.sureAddr, loadVar, run_isAgg ha, run_sizeOf hs, run_loadCells hk hc]
theorem add_adr {g o j : Nat} : (⟨g, o, none⟩ : Addr).add j = ⟨g, o + j, none⟩ := by unfold Addr.add; split <;> simp_all
theorem adr_add (a : Option Addr) (h : a.isSome = true) (i j : Nat) : (adr a i).add j = adr a (i + j) := by
  cases a with
  | none => cases h
  | some p => simp only [adr, add_adr, Nat.add_assoc]
/-! What a store does. -/
/-- A row with some cells laid anew. -/
def splice (l : List Value) (o : Nat) (vs : List Value) : List Value := l.take o ++ vs ++ l.drop (o + vs.length)
theorem splice_length {l : List Value} {o : Nat} {vs : List Value} (h : o + vs.length ≤ l.length) : (splice l o vs).length = l.length := by simp [splice]; omega
theorem splice_cons {l : List Value} {o : Nat} {v : Value} {vs : List Value} (h : o + (v :: vs).length ≤ l.length) : splice (l.set o v) (o + 1) vs = splice l o (v :: vs) := by
  unfold splice
  have h' : o < l.length := by simp at h; omega
  have e1 : (l.set o v).take (o + 1) = l.take o ++ [v] := by
    rw [List.take_set, List.take_succ_eq_append_getElem h', List.set_append_right _ _ (by rw [List.length_take]; omega)]
    simp [Nat.min_eq_left (Nat.le_of_lt h')]
  have e2 : (l.set o v).drop (o + 1 + vs.length) = l.drop (o + (v :: vs).length) := by
    rw [List.drop_set, if_pos (by omega)]
    congr 1
    simp; omega
  rw [e1, e2]; simp
def noAgg : Value → Bool
  | .agg _ => false
  | .tuple _ => false
  | _ => true
theorem run_store1 {p : Addr} {v u : Value} {w : World} (hn : noAgg v = true) (hc : w.cell? p = some u) (hf : w.frozen? p = false) : (store p v).run P w = .ok () (w.setCell p v) := by
  cases v <;> first | (cases hn; done) | simp [store, Sem.run, hc, hf]
theorem setCell_row {w : World} {g o : Nat} {l : List Value} {t : TypeId} {fr : Nat × Nat} {v : Value} (h : w.heap[g]? = some (.cells l.toArray t fr)) : (w.setCell ⟨g, o, none⟩ v).heap[g]? = some (.cells (l.set o v).toArray t fr) := by
  simp [World.setCell, Array.getElem?_modify, h]
theorem setCell_far {w : World} {g o k : Nat} {v : Value} (hk : k ≠ g) : (w.setCell ⟨g, o, none⟩ v).heap[k]? = w.heap[k]? := by
  simp only [World.setCell, Array.getElem?_modify]
  rw [if_neg (by simpa using fun e => hk e.symm)]
theorem St.store1 {g o : Nat} {l : List Value} {t : TypeId} {v : Value} (h : St B (cel g l t :: L) w) (ho : o < l.length) : St B (cel g (l.set o v) t :: L) (w.setCell ⟨g, o, none⟩ v) := by
  obtain ⟨fr, hf, h1⟩ := h.cel_open
  exact St.cel_shut (by simpa using hf) (h1.write (fun k hk => setCell_far hk) (setCell_row h1.at) rfl rfl rfl)
theorem run_storeCells {g : Nat} {t : TypeId} : ∀ (vs : List Value) {w : World} {l : List Value} {o i : Nat}, (vs.all noAgg = true) → o + i + vs.length ≤ l.length → St B (cel g l t :: L) w →
    ∃ w', (storeCells ⟨g, o, none⟩ vs i).run P w = .ok () w' ∧ St B (cel g (splice l (o + i) vs) t :: L) w'
  | [], w, l, o, i, _, _, h => ⟨w, by simp [storeCells], by simpa [splice] using h⟩
  | v :: vs, w, l, o, i, hn, hl, h => by
    simp only [List.all_cons, Bool.and_eq_true] at hn
    have ho : o + i < l.length := by simp at hl; omega
    obtain ⟨fr, hf, h1⟩ := h.cel_open
    have hc : w.cell? ⟨g, o + i, none⟩ = some l[o + i] := by rw [cell_row h1.at, List.getElem?_eq_getElem ho]
    have hfz : w.frozen? ⟨g, o + i, none⟩ = false := by simp only [World.frozen?, h1.at]; exact hf _ ho
    obtain ⟨w', e, h'⟩ := run_storeCells vs (o := o) (i := i + 1) hn.2 (by simp at hl ⊢; omega) (h.store1 (v := v) ho)
    refine ⟨w', ?_, ?_⟩
    · unfold storeCells
      rw [Sem.run_bind, add_adr, run_store1 hn.1 hc hfz, Result.andThen_ok]
      exact e
    · rw [← splice_cons (by simp at hl ⊢; omega)]; exact h'
theorem run_storeVar {g o k : Nat} {t u : TypeId} {v : Value} {vs l : List Value} (hs : sizeB P u = some k) (hv : v.cells.toList = vs) (hk : vs.length = k) (hn : vs.all noAgg = true) (ho : o + k ≤ l.length) (h : St B (cel g l t :: L) w) :
    ∃ w', (storeVar u ⟨g, o, none⟩ v).run P w = .ok () w' ∧ St B (cel g (splice l o vs) t :: L) w' := by
  obtain ⟨w', e, h'⟩ := run_storeCells (P := P) vs (o := o) (i := 0) hn (by omega) h
  refine ⟨w', ?_, h'⟩
  have hsz : v.cells.size = k := by rw [← hk, ← hv]; simp
  simp [storeVar, run_sizeOf hs, hsz, hv, e]
variable {ops : Array Oper} {rest : List Oper} {Q : Exit → Act → World → Prop}
/-- A store into a block of one's own. -/
theorem WO.store {u : TypeId} {x y : Operand} {g o k : Nat} {t : TypeId} {v : Value} {vs l l' : List Value} (i : Nat) (hS : St B L w) (hi : nth L i = some (cel g l t)) (hs : sizeB P u = some k)
    (hx : ev T x = some (.pointer (some ⟨g, o, none⟩))) (hy : ev T y = some v) (hv : v.cells.toList = vs) (hk : vs.length = k) (hn : vs.all noAgg = true) (ho : o + k ≤ l.length) (hl : splice l o vs = l')
    (h : ∀ w', St B (put L i (cel g l' t)) w' → WO P n D ops Q rest T w') : WO P n D ops Q (⟨none, .store u x y, ty, pos, aft, none⟩ :: rest) T w := fun a f => by
  obtain ⟨w', e, h'⟩ := run_storeVar (P := P) hs hv hk hn ho (hS.focus i hi)
  subst hl
  exact WO.eff (w' := w') (fun c fc => by simp [execOp, fc.ev hx, fc.ev hy, Instr.storeAt, Instr.sureAddr, e]) rfl rfl (h w' (St.unfocus hi h')) a f
/-! New blocks. -/
theorem St.newCel (h : St B L w) (l : List Value) (t : TypeId) : St B (cel w.heap.size l t :: L) (w.alloc (.cells l.toArray t (0, 0))) :=
  St.cel_shut (free_none _) (h.new (.cells l.toArray t (0, 0)) rfl rfl rfl rfl)
def zeroB (P : Program) (t : TypeId) : Option Value := (P.info? t).bind (·.zero)
theorem run_zero {t : TypeId} {v : Value} (h : zeroB P t = some v) (w : World) : (zeroValue t).run P w = .ok v w := by
  obtain ⟨j, hj, hk⟩ := Option.bind_eq_some_iff.1 h
  simp [zeroValue, typeInfo, hj, hk]
theorem run_newVar (t : TypeId) (v : Value) (w : World) : (newVar t v).run P w = .ok ⟨w.heap.size, 0, none⟩ (w.alloc (.cells v.cells t (0, 0))) := by
  rfl
theorem WO.alloc {e d : Nat} {z : Value} {l : List Value} (hS : St B L w) (hz : zeroB P e = some z) (hl : z.cells = l.toArray) (hn : Nat.blt d n = true)
    (h : ∀ g w', B.heap.size ≤ g → St B (cel g l e :: L) w' → WO P n D ops Q rest ((d, .pointer (some ⟨g, 0, none⟩)) :: T) w') : WO P n D ops Q (⟨some d, .alloc e, ty, pos, aft, none⟩ :: rest) T w :=
  WO.val (v := .pointer (some ⟨w.heap.size, 0, none⟩)) (w' := w.alloc (.cells l.toArray e (0, 0))) (fun c fc => by simp [execOp, Instr.alloc, run_zero hz, run_newVar, hl]) rfl rfl hn (h _ _ hS.below.size (hS.newCel l e))
theorem WO.box {e d : Nat} {x : Operand} {v : Value} {l : List Value} (hS : St B L w) (hx : ev T x = some v) (hl : v.cells = l.toArray) (hn : Nat.blt d n = true)
    (h : ∀ g w', B.heap.size ≤ g → St B (cel g l e :: L) w' → WO P n D ops Q rest ((d, .pointer (some ⟨g, 0, none⟩)) :: T) w') : WO P n D ops Q (⟨some d, .box e x, ty, pos, aft, none⟩ :: rest) T w :=
  WO.val (v := .pointer (some ⟨w.heap.size, 0, none⟩)) (w' := w.alloc (.cells l.toArray e (0, 0))) (fun c fc => by simp [execOp, Instr.box, fc.ev hx, run_newVar, hl]) rfl rfl hn (h _ _ hS.below.size (hS.newCel l e))
/-- A slice out of parts: its block may be written, or be sealed. -/
theorem WO.buildSlice {t e d m : Nat} {ps : Array (Nat × Operand)} {vs : List (Nat × Value)} {l : List Value} (hS : St B L w) (ht : P.underlying t = some (.slice e)) (hp : evp T ps.toList = some vs)
    (hb : ∀ w, (Instr.buildSlice t m vs.toArray).run P w = .ok (.slice (some ⟨w.heap.size, 0, none⟩) m m) (w.alloc (.cells l.toArray e (0, 0)))) (hn : Nat.blt d n = true)
    (h : ∀ g w', B.heap.size ≤ g → St B (cel g l e :: L) w' → WO P n D ops Q rest ((d, .slice (some ⟨g, 0, none⟩) m m) :: T) w') : WO P n D ops Q (⟨some d, .buildSlice t m ps, ty, pos, aft, none⟩ :: rest) T w :=
  WO.val (v := .slice (some ⟨w.heap.size, 0, none⟩) m m) (w' := w.alloc (.cells l.toArray e (0, 0))) (fun c fc => by
    have h2 : ps.map (fun p => (p.1, c.eval p.2)) = vs.toArray := by rw [← fc.evp hp]; apply Array.ext'; simp
    have h3 : (ps.map fun (i, x) => (i, c.eval x)) = vs.toArray := h2
    simp [execOp, h3, hb]) rfl rfl hn (h _ _ hS.below.size (hS.newCel l e))
end
end Go.Proofs.YtegcibphlpanfaaGreatDoor.SL
