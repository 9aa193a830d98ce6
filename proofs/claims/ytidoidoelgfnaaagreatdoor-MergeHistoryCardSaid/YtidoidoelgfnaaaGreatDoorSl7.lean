/- More rules, by which printed walks go: cases, places where ways meet, arrays, elements by number. -/
import Derived.Test.YtidoidoelgfnaaaGreatDoorSl6
namespace Go.Proofs.YtidoidoelgfnaaaGreatDoor.SL
open Go.RowKit
set_option linter.unusedVariables false
set_option linter.unusedSimpArgs false
section
variable {P : Program} {n : Nat} {D : List Deferred} {T : Tm} {w : World} {dst : Option Nat} {ty : TypeId} {pos : String} {aft : Array Edge} {Q : Exit → Act → World → Prop} {ops : Array Oper} {rest : List Oper} {B : World} {L : List HP}
theorem WP.condP {c : Operand} {x y : Code} {p : Prop} [Decidable p] (hc : ev T c = some (.bool (decide p))) (h1 : p → WP P n D x Q T w) (h2 : ¬ p → WP P n D y Q T w) : WP P n D (.cond c x y) Q T w :=
  .condB hc (fun h => h1 (of_decide_eq_true h)) (fun h => h2 (of_decide_eq_false h))
theorem WP.meet {α : Type} {c : Code} (H : α → Tm) (I : α → World → Prop) (K : ∀ x w', I x w' → NX n D Q .normal (H x) w') (h : (∀ x w' T', I x w' → Sub T' (H x) → NX n D Q .normal T' w') → WP P n D c Q T w) : WP P n D c Q T w := h fun x w' T' i s => (K x w' i).sub s
theorem run_moveAs {x : Operand} {u v : Value} (hx : ev T x = some u) (e : u = v) : Run P n D T w ⟨dst, .move x, ty, pos, aft, none⟩ v w := e ▸ run_move hx
theorem WO.mv {d : Nat} {x : Operand} {v : Value} {ty : TypeId} {pos : String} {aft : Array Edge} (hx : ev T x = some v) (hn : Nat.blt d n = true) (h : WO P n D ops Q rest ((d, v) :: T) w) : WO P n D ops Q (⟨some d, .move x, ty, pos, aft, none⟩ :: rest) T w := WO.val (run_move hx) rfl rfl hn h
theorem WO.asg {d : Nat} {x : Operand} {v : Value} {ty : TypeId} {pos : String} {aft : Array Edge} (hx : ev T x = some v) (hn : Nat.blt d n = true) (h : WO P n D ops Q rest ((d, v) :: T) w) : WO P n D ops Q (⟨some d, .assign x, ty, pos, aft, none⟩ :: rest) T w := WO.val (run_assign hx) rfl rfl hn h
/-- A row's value in the table by another name. -/
theorem WO.as {d : Nat} {u v : Value} (h0 : look T d = some u) (e : u = v) (h : WO P n D ops Q rest ((d, v) :: T) w) : WO P n D ops Q rest T w := fun a f =>
  h a ⟨f.size, f.defs, fun i x hx => by
    unfold look at hx
    cases hb : Nat.beq d i with
    | true => rw [hb] at hx; cases hx; rw [← Nat.eq_of_beq_eq_true hb, ← e]; exact f.out d u h0
    | false => rw [hb] at hx; exact f.out i x hx⟩
theorem WP.as {c : Code} {d : Nat} {u v : Value} (h0 : look T d = some u) (e : u = v) (h : WP P n D c Q ((d, v) :: T) w) : WP P n D c Q T w := fun a f =>
  h a ⟨f.size, f.defs, fun i x hx => by
    unfold look at hx
    cases hb : Nat.beq d i with
    | true => rw [hb] at hx; cases hx; rw [← Nat.eq_of_beq_eq_true hb, ← e]; exact f.out d u h0
    | false => rw [hb] at hx; exact f.out i x hx⟩
/-! arrays -/
theorem run_indexAddrA {t e : TypeId} {x y : Operand} {k : IntKind} {i : Int} {m sz g o : Nat} {q : Addr} (ht : P.underlying t = some (.array m e)) (hs : sizeB P e = some sz)
    (hx : ev T x = some (.pointer (some ⟨g, o, none⟩))) (hy : ev T y = some (.int k i)) (h0 : 0 ≤ i) (hi : i < m) (hq : (⟨g, o + i.toNat * sz, none⟩ : Addr) = q) : Run P n D T w ⟨dst, .indexAddr t x y, ty, pos, aft, none⟩ (.pointer (some q)) w := fun c f => by
  have h : 0 ≤ i ∧ i < (m : Int) := ⟨h0, hi⟩
  subst hq
  simp only [execOp, f.ev hx, f.ev hy, Instr.indexAt, asIntOf, Sem.run_bind, run_underlying ht, Result.andThen_ok, Sem.run_pure, Instr.sureAddr]
  simp [h, run_sizeOf hs, add_adr]
/-- A piece of an array, from i on. -/
theorem run_sliceA {t e : TypeId} {x : Operand} {lo hi : Option Operand} {i j m sz g o : Nat} (ht : P.underlying t = some (.array m e)) (hs : sizeB P e = some sz) (hx : ev T x = some (.pointer (some ⟨g, o, none⟩)))
    (hl : match lo with | none => i = 0 | some o => ∃ k, ev T o = some (.int k (i : Int))) (hh : match hi with | none => j = m | some o => ∃ k, ev T o = some (.int k (j : Int))) (hij : i ≤ j) (hj : j ≤ m) :
    Run P n D T w ⟨dst, .slice t x lo hi none, ty, pos, aft, none⟩ (.slice (some ⟨g, (if m = i then o else o + i * sz), none⟩) (j - i) (m - i)) w := fun c f => by
  have e1 : ∀ (k : IntKind) (y : Nat) (m : Nat) (cd : BoundsCode), m ≤ y → (Instr.sliceBound (.int k (m : Int)) y cd).run P w = .ok m w := fun k y m cd h => by
    have : (0 : Int) ≤ m ∧ (m : Int) ≤ y := by omega
    simp [Instr.sliceBound, asIntOf, h]
  have e2 : (if m = i then (⟨g, o, none⟩ : Addr) else ⟨g, o + i * sz, none⟩) = ⟨g, (if m = i then o else o + i * sz), none⟩ := by split <;> rfl
  cases lo with
  | none =>
    simp only at hl; subst hl
    cases hi with
    | none => simp only at hh; subst hh; simp [execOp, f.ev hx, Instr.sliceAt, run_underlying ht, Instr.sliceBounds, Instr.sureAddr, run_sizeOf hs, add_adr, e2]
    | some q => obtain ⟨k, hk⟩ := hh; simp [execOp, f.ev hx, f.ev hk, Instr.sliceAt, run_underlying ht, Instr.sliceBounds, Instr.sureAddr, e1, hj, run_sizeOf hs, add_adr, e2]
  | some p =>
    obtain ⟨kp, hp⟩ := hl
    cases hi with
    | none => simp only at hh; subst hh; simp [execOp, f.ev hx, f.ev hp, Instr.sliceAt, run_underlying ht, Instr.sliceBounds, Instr.sureAddr, e1, hij, run_sizeOf hs, add_adr, e2]
    | some q => obtain ⟨k, hk⟩ := hh; simp [execOp, f.ev hx, f.ev hk, f.ev hp, Instr.sliceAt, run_underlying ht, Instr.sliceBounds, Instr.sureAddr, e1, hj, hij, run_sizeOf hs, add_adr, e2]
theorem run_sliceA1 {t e : TypeId} {x : Operand} {lo hi : Option Operand} {i j m sz g o : Nat} (q : Nat) (ht : P.underlying t = some (.array m e)) (hs : sizeB P e = some sz) (hx : ev T x = some (.pointer (some ⟨g, o, none⟩)))
    (hl : match lo with | none => i = 0 | some o => ∃ k, ev T o = some (.int k (i : Int))) (hh : match hi with | none => j = m | some o => ∃ k, ev T o = some (.int k (j : Int))) (hij : i ≤ j) (hj : j ≤ m) (him : i < m) (hq : o + i * sz = q) :
    Run P n D T w ⟨dst, .slice t x lo hi none, ty, pos, aft, none⟩ (.slice (some ⟨g, q, none⟩) (j - i) (m - i)) w := fun c f => by
  have := run_sliceA (P := P) (n := n) (D := D) (T := T) (w := w) (dst := dst) (ty := ty) (pos := pos) (aft := aft) ht hs hx hl hh hij hj c f
  rw [if_neg (by omega), hq] at this
  exact this
theorem splice_one {l : List Value} {o : Nat} {v : Value} (h : o < l.length) : splice l o [v] = l.set o v := by
  have := splice_cons (l := l) (o := o) (v := v) (vs := []) (by simp; omega)
  rw [← this]
  unfold splice
  simp
/-- One cell that is laid anew, at a place that is known by a number alone. -/
theorem WO.storeAt {u : TypeId} {x y : Operand} {g o : Nat} {t : TypeId} {v : Value} {l : List Value} (i : Nat) (hS : St B L w) (hi : nth L i = some (cel g l t)) (hs : sizeB P u = some 1)
    (hx : ev T x = some (.pointer (some ⟨g, o, none⟩))) (hy : ev T y = some v) (hv : v.cells.toList = [v]) (hn : noAgg v = true) (ho : o < l.length)
    (h : ∀ w', St B (put L i (cel g (l.set o v) t)) w' → WO P n D ops Q rest T w') : WO P n D ops Q (⟨none, .store u x y, ty, pos, aft, none⟩ :: rest) T w :=
  WO.store i hS hi hs hx hy hv rfl (by simp [hn]) (by omega) (splice_one ho) h
theorem WO.storeOwnAt {u : TypeId} {x y : Operand} {a : Option Addr} {m cap o k : Nat} {t : TypeId} {v : Value} {l : List Value} (i : Nat) (hS : St B L w) (hi : nth L i = some (own a m cap t k l)) (hs : sizeB P u = some 1)
    (hx : ev T x = some (.pointer (some (adr a o)))) (hy : ev T y = some v) (hv : v.cells.toList = [v]) (hn : noAgg v = true) (ho : o < l.length)
    (h : ∀ w', St B (put L i (own a m cap t k (l.set o v))) w' → WO P n D ops Q rest T w') : WO P n D ops Q (⟨none, .store u x y, ty, pos, aft, none⟩ :: rest) T w :=
  WO.storeOwn i hS hi hs hx hy hv rfl (by simp [hn]) (by omega) (by omega) (splice_one ho) h
/-- An array's piece as a slice that may be read. -/
theorem St.cel_rd {g : Nat} {l : List Value} {t : TypeId} (h : St B L w) (i : Nat) (hi : nth L i = some (cel g l t)) {o m k : Nat} {vs : List Value} (hv : (l.drop o).take (m * k) = vs) (ho : o + m * k ≤ l.length) : Rd w (some ⟨g, o, none⟩) m k vs := by
  subst hv
  have hl : ((l.drop o).take (m * k)).length = m * k := by rw [List.length_take, List.length_drop]; omega
  refine ⟨hl, fun _ => ⟨_, rfl, rfl⟩, fun j hj => ?_⟩
  show w.cell? ⟨g, o + j, none⟩ = _
  rw [h.cel_at i hi (o + j), List.getElem?_take_of_lt (by omega), List.getElem?_drop]
theorem St.permT {B w : World} {L : List HP} (h : St B L w) (I : List Nat) {L' : List HP} (e : take L I ++ left L I = L') : St B L' w := e ▸ h.takes I
/-- What is read in the world in which all began is read later, too. -/
theorem St.rdB {B w : World} {L : List HP} (h : St B L w) {a : Option Addr} {n k : Nat} {l : List Value} (hA : Rd B a n k l) : Rd w a n k l := by
  refine ⟨hA.1, hA.2.1, fun j hj => ?_⟩
  rw [← hA.2.2 j hj]
  have hl : j < l.length := by rw [hA.1]; exact hj
  have hs : B.cell? (adr a j) = some l[j] := by rw [hA.2.2 j hj, List.getElem?_eq_getElem hl]
  have hb := h.below
  have hlt : (adr a j).block < B.heap.size := by
    unfold World.cell? at hs
    cases e : B.heap[(adr a j).block]? with
    | none => rw [e] at hs; cases hs
    | some o => exact (Array.getElem?_eq_some_iff.1 e).1
  exact hb.cell hlt
theorem cell_all {w : World} {g : Nat} {l : List Value} (hc : ∀ j, w.cell? ⟨g, j, none⟩ = l[j]?) (o : Nat) {vs : List Value} (hv : (l.drop o).take vs.length = vs) : ∀ j, j < vs.length → w.cell? ((⟨g, o, none⟩ : Addr).add j) = vs[j]? := fun j hj => by
  rw [add_adr, hc]
  have : vs[j]? = ((l.drop o).take vs.length)[j]? := by rw [hv]
  rw [this, List.getElem?_take_of_lt hj, List.getElem?_drop]
theorem shr_lit {kd : IntKind} {a b m : Int} (h : (2 : Int) ^ (min b.toNat kd.bits) = m) (hm : 0 ≤ m) : a.fdiv (2 ^ (min b.toNat kd.bits)) = a / m := by
  rw [h]; exact Int.fdiv_eq_ediv_of_nonneg _ hm
theorem quo_i64 {a b : Int} (h : 0 ≤ a ∧ a ≤ 9223372036854775807 ∧ 0 < b) : IntKind.i64.wrap (a.tdiv b) = a / b := by
  rw [Int.tdiv_eq_ediv_of_nonneg h.1]
  have h1 : 0 ≤ a / b := Int.ediv_nonneg h.1 (by omega)
  have h2 : a / b ≤ a := Int.ediv_le_self _ h.1
  exact IntWalk.i64_in _ (by omega)
end
end Go.Proofs.YtidoidoelgfnaaaGreatDoor.SL
