/- The library's contracts on whole numbers in a row, in the words of assertions. -/
import Derived.Test.YtiggkfaonnnjoaaGreatDoorSl8
import Derived.Shelf.Sort.Plain
import Derived.Shelf.Slices.CompactI
namespace Go.Proofs.YtiggkfaonnnjoaaGreatDoor.SL
open Go.RowKit
set_option linter.unusedVariables false
variable {B w : World} {L : List HP}
def ri (l : List Int) : List Value := l.map (Value.int .i64)
theorem ri_len (l : List Int) : (ri l).length = l.length := List.length_map ..
theorem ri_noAgg (l : List Int) : (ri l).all noAgg = true := by simp [ri, noAgg, List.all_map]
theorem ri_get {l : List Int} {i : Nat} {x : Int} (h : l[i]? = some x) : (ri l)[i]? = some (Value.int .i64 x) := by unfold ri; rw [List.getElem?_map, h]; rfl
theorem St.grow (os : Array Obj) (h : St B L w) : St B L (Go.Sort.grow w os) := by
  obtain ⟨h1, h2, h3, Z, p, d, hB, hZ, hp, s⟩ := h
  have big : Le (heapOf w) (heapOf (Go.Sort.grow w os)) := Le.mk fun g x e => by
    have hlt : g < w.heap.size := (Array.getElem?_eq_some_iff.1 e).1
    show (w.heap ++ os)[g]? = some x
    rw [Array.getElem?_append_left hlt]; exact e
  exact ⟨h1, h2, h3, Z, p, d, hB, hZ.trans big, hp.trans big, s⟩
theorem St.ahead (q : Nat) (h : St B L w) : St B L (Go.Sort.ahead w q) := by
  obtain ⟨h1, h2, h3, Z, p, d, hB, hZ, hp, s⟩ := h
  exact ⟨h1, h2, h3, Z, p, d, hB, hZ, hp, s⟩
theorem St.own_holds {b off n cap : Nat} {t : TypeId} {zs : List Int} (h : St B (own (some ⟨b, off, none⟩) n cap t 1 (ri zs) :: L) w) : Go.Sort.Holds (Value.int .i64) w b off zs.toArray ∧ b < w.heap.size := by
  obtain ⟨⟨x, y⟩, h1⟩ := h.ex
  obtain ⟨⟨_, h3, h4, h5, h6⟩, h7⟩ := h1.sep.pure
  obtain ⟨fr, hf, h8⟩ := h7.cel_open
  have hb := h8.at
  simp only at h3
  refine ⟨fun j hj => ?_, h8.lt⟩
  have hj' : j < zs.length := by simpa using hj
  have hlen : off + j < (x ++ (ri zs ++ y)).length := by simp [ri_len]; omega
  have hg : (x ++ (ri zs ++ y))[off + j]? = some (Value.int .i64 zs[j]) := by
    rw [List.getElem?_append_right (by omega), List.getElem?_append_left (by rw [ri_len]; omega), show off + j - x.length = j by omega]
    exact ri_get (List.getElem?_eq_getElem hj')
  refine ⟨?_, ?_⟩
  · rw [cell_row hb, hg]; simp [hj']
  · have := hf (off + j) hlen
    simpa [World.frozen?, hb] using this
theorem mid_get {α : Type} (x l y : List α) (k : Nat) : (x ++ (l ++ y))[k]? = if k < x.length then x[k]? else if k - x.length < l.length then l[k - x.length]? else y[k - x.length - l.length]? := by
  split
  · rw [List.getElem?_append_left (by assumption)]
  · rw [List.getElem?_append_right (by omega)]
    split
    · rw [List.getElem?_append_left (by assumption)]
    · rw [List.getElem?_append_right (by omega)]
theorem pre_free {fr : Nat × Nat} {x l y : List Value} {zs : List Int} (hl : l.length = zs.length) (h : Free fr (x ++ (l ++ y)).length) : Free fr (x ++ (ri zs ++ y)).length := by
  simpa [ri_len, hl] using h
theorem St.own_put {b off n cap q : Nat} {t : TypeId} {l : List Value} {zs : List Int} (h : St B (own (some ⟨b, off, none⟩) n cap t 1 l :: L) w) (hn : zs.length = n) : St B (own (some ⟨b, off, none⟩) n cap t 1 (ri zs) :: L) (Go.Sort.putRow (Value.int .i64) (Go.Sort.ahead w q) b off zs.toArray) := by
  obtain ⟨⟨x, y⟩, h1⟩ := (h.ahead q).ex
  obtain ⟨⟨h2, h3, h4, h5, h6⟩, h7⟩ := h1.sep.pure
  obtain ⟨fr, hf, h8⟩ := h7.cel_open
  simp only at h3 h6 hf
  have hb := h8.at
  have hl : l.length = zs.length := by omega
  have hcells : Go.Sort.putCells (Value.int .i64) off zs.toArray (x ++ (l ++ y)).toArray = (x ++ (ri zs ++ y)).toArray := by
    apply Array.ext_getElem?
    intro k
    simp only [Go.Sort.putCells, Array.getElem?_mapIdx, List.getElem?_toArray, List.size_toArray]
    rw [mid_get, mid_get, ri_len]
    by_cases c1 : k < x.length
    · rw [if_pos c1, if_pos c1]
      cases x[k]? with
      | none => rfl
      | some v => simp [show ¬ off ≤ k by omega]
    · rw [if_neg c1, if_neg c1]
      by_cases c2 : k - x.length < zs.length
      · rw [if_pos (by omega), if_pos c2, List.getElem?_eq_getElem (by omega), ri_get (List.getElem?_eq_getElem c2)]
        rw [Option.map_some, if_pos ⟨by omega, by simpa using (by omega : k < off + zs.length)⟩, h3]
        congr 2
        simp [c2]
      · rw [if_neg (by omega), if_neg c2, hl]
        cases y[k - x.length - zs.length]? with
        | none => rfl
        | some v => simp [show ¬ k < off + zs.length by omega]
  refine St.own_shut (p := ⟨b, off, none⟩) h2 (by simpa using h3) (by rw [ri_len]; omega) h5 (show (ri zs).length + y.length = _ by rw [ri_len]; omega) (St.cel_shut (fr := fr) (pre_free hl hf) (h8.write (fun k hk => ?_) ?_ rfl rfl rfl))
  · show (Array.modify _ _ _)[k]? = _
    rw [Array.getElem?_modify, if_neg (Ne.symm hk)]
  · show (Array.modify _ _ _)[b]? = _
    rw [Array.getElem?_modify, if_pos rfl, hb]
    simp only [Option.map_some, Go.Sort.onCells, hcells]
/-- Parts of a slice that is read. -/
theorem Rd.take {a : Option Addr} {n k m : Nat} {l : List Value} (h : Rd w a n k l) (hm : m ≤ n) : Rd w a m k (l.take (m * k)) := by
  have hk : m * k ≤ n * k := Nat.mul_le_mul_right _ hm
  refine ⟨by rw [List.length_take, h.1]; omega, fun hp => h.2.1 (by omega), fun j hj => ?_⟩
  rw [h.2.2 j (by omega), List.getElem?_take_of_lt hj]
theorem Rd.drop1 {a : Option Addr} {n i c : Nat} {l : List Value} (h : Rd w a n 1 l) (hi : i ≤ n) (hc : n ≤ c) : Rd w (if c = i then a else a.map (·.add (i * 1))) (n - i) 1 (l.drop i) := by
  refine ⟨by rw [List.length_drop, h.1]; omega, fun hp => ?_, fun j hj => ?_⟩
  · obtain ⟨⟨b, o, sp⟩, rfl, hs⟩ := h.2.1 (by omega)
    simp only at hs; subst hs
    rw [if_neg (by omega), Option.map_some, Go.WideShapes.add_plain]
    exact ⟨_, rfl, rfl⟩
  · obtain ⟨⟨b, o, sp⟩, rfl, hs⟩ := h.2.1 (by omega)
    simp only at hs; subst hs
    rw [if_neg (by omega), List.getElem?_drop, ← h.2.2 (i + j) (by omega), Option.map_some, Go.WideShapes.add_plain]
    show w.cell? ⟨b, o + i * 1 + j, none⟩ = w.cell? ⟨b, o + (i + j), none⟩
    rw [Nat.mul_one, Nat.add_assoc]
theorem add_spot {p : Addr} {k : Nat} (h : p.spot = none) : (p.add k).spot = none := by
  obtain ⟨b, o, sp⟩ := p; simp only at h; subst h; rw [Go.WideShapes.add_plain]
theorem add_off {p : Addr} {k : Nat} (h : p.spot = none) : (p.add k).off = p.off + k := by
  obtain ⟨b, o, sp⟩ := p; simp only at h; subst h; rw [Go.WideShapes.add_plain]
theorem add_block {p : Addr} {k : Nat} (h : p.spot = none) : (p.add k).block = p.block := by
  obtain ⟨b, o, sp⟩ := p; simp only at h; subst h; rw [Go.WideShapes.add_plain]
theorem St.ro_drop1 {a : Option Addr} {n i c : Nat} {t : TypeId} {l : List Value} (h : St B (ro a n t 1 l :: L) w) (hi : i ≤ n) (hc : n ≤ c) : St B (ro (if c = i then a else a.map (·.add (i * 1))) (n - i) t 1 (l.drop i) :: L) w := by
  cases a with
  | none =>
    obtain ⟨⟨rfl, rfl⟩, h0⟩ := h.pure
    have : i = 0 := by omega
    subst this
    have : (if c = 0 then (none : Option Addr) else Option.map (fun q : Addr => q.add (0 * 1)) none) = none := by split <;> rfl
    rw [this]
    exact h0.addPure ⟨rfl, rfl⟩
  | some p =>
    obtain ⟨⟨x, y⟩, h1⟩ := h.ex
    obtain ⟨⟨h2, h3, h4⟩, h5⟩ := h1.sep.pure
    simp only at h2 h3 h4 h5
    by_cases e : c = i
    · rw [if_pos e]
      have hni : n = i := by omega
      subst hni
      refine (St.join (St.addPure ⟨h2, h3, by rw [List.length_drop]; omega⟩ ?_)).give (x, l ++ y)
      simp only [List.drop_of_length_le (show l.length ≤ n by omega), List.nil_append]
      exact h5
    · rw [if_neg e]
      refine (St.join (St.addPure ⟨?_, ?_, by rw [List.length_drop]; omega⟩ ?_)).give (x ++ l.take i, y)
      · show St B (scel (p.add (i * 1)).block ((x ++ l.take i) ++ (l.drop i ++ y)) t :: L) w
        rw [add_block h2]
        have : (x ++ l.take i) ++ (l.drop i ++ y) = x ++ (l ++ y) := by
          rw [List.append_assoc, ← List.append_assoc (l.take i), List.take_append_drop]
        rw [this]; exact h5
      · exact add_spot h2
      · show (p.add (i * 1)).off = _
        rw [add_off h2, Nat.mul_one, List.length_append, List.length_take]; omega
end Go.Proofs.YtiggkfaonnnjoaaGreatDoor.SL
