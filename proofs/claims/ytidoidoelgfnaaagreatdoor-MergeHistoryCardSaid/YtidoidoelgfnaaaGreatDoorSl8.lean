/- Rows of parts of one size; maps from strings. -/
import Derived.Test.YtidoidoelgfnaaaGreatDoorSl7
namespace Go.Proofs.YtidoidoelgfnaaaGreatDoor.SL
open Go.RowKit
set_option linter.unusedVariables false
set_option linter.unusedSimpArgs false
section flat
variable {α : Type} {enc : α → List Value} {k : Nat}
theorem flat_len (hk : ∀ x, (enc x).length = k) : ∀ l : List α, (l.flatMap enc).length = l.length * k
  | [] => by simp
  | x :: l => by rw [List.flatMap_cons, List.length_append, hk, flat_len hk l, List.length_cons, Nat.add_mul]; omega
theorem flat_take (hk : ∀ x, (enc x).length = k) : ∀ (l : List α) (i : Nat), (l.flatMap enc).take (i * k) = (l.take i).flatMap enc
  | _, 0 => by simp
  | [], i + 1 => by simp
  | x :: l, i + 1 => by
    rw [List.flatMap_cons, List.take_succ_cons, List.flatMap_cons, List.take_append, hk, List.take_of_length_le (by rw [hk, Nat.add_mul]; omega), ← flat_take hk l i]
    congr 2; rw [Nat.add_mul]; omega
theorem flat_drop (hk : ∀ x, (enc x).length = k) : ∀ (l : List α) (i : Nat), (l.flatMap enc).drop (i * k) = (l.drop i).flatMap enc
  | _, 0 => by simp
  | [], i + 1 => by simp
  | x :: l, i + 1 => by
    rw [List.flatMap_cons, List.drop_succ_cons, List.drop_append, hk, List.drop_eq_nil_of_le (by rw [hk, Nat.add_mul]; omega), List.nil_append, ← flat_drop hk l i]
    congr 1; rw [Nat.add_mul]; omega
theorem flat_get (hk : ∀ x, (enc x).length = k) {l : List α} {i j : Nat} {x : α} (hx : l[i]? = some x) (hj : j < k) : (l.flatMap enc)[i * k + j]? = (enc x)[j]? := by
  rw [← List.getElem?_drop, flat_drop hk]
  have hi := (List.getElem?_eq_some_iff.1 hx).1
  rw [List.drop_eq_getElem_cons hi, List.flatMap_cons, List.getElem?_append_left (by rw [hk]; exact hj), (List.getElem?_eq_some_iff.1 hx).2]
theorem flat_part (hk : ∀ x, (enc x).length = k) {l : List α} {i : Nat} {x : α} (hx : l[i]? = some x) : ((l.flatMap enc).drop (i * k)).take k = enc x := by
  rw [flat_drop hk]
  have hi := (List.getElem?_eq_some_iff.1 hx).1
  rw [List.drop_eq_getElem_cons hi, List.flatMap_cons, (List.getElem?_eq_some_iff.1 hx).2, List.take_append_of_le_length (by rw [hk]; exact Nat.le_refl _), List.take_of_length_le (by rw [hk]; exact Nat.le_refl _)]
theorem flat_splice (hk : ∀ x, (enc x).length = k) {l : List α} {i : Nat} (y : α) (hi : i < l.length) : splice (l.flatMap enc) (i * k) (enc y) = (l.set i y).flatMap enc := by
  unfold splice
  rw [hk, flat_take hk, show i * k + k = (i + 1) * k by rw [Nat.add_mul]; omega, flat_drop hk, List.set_eq_take_append_cons_drop, if_pos hi]
  simp
theorem flat_snoc (l : List α) (x : α) : (l ++ [x]).flatMap enc = l.flatMap enc ++ enc x := by simp
theorem splice_set {F p : List Value} {o j : Nat} (hp : (F.drop o).take p.length = p) (hj : j < p.length) (ho : o + p.length ≤ F.length) (v : Value) : splice F o (p.set j v) = F.set (o + j) v := by
  have hg : ∀ i, i < p.length → F[o + i]? = p[i]? := fun i hi => by
    have : p[i]? = ((F.drop o).take p.length)[i]? := by rw [hp]
    rw [this, List.getElem?_take_of_lt hi, List.getElem?_drop]
  unfold splice
  rw [List.length_set]
  apply List.ext_getElem?
  intro m
  rw [List.getElem?_set]
  rcases Nat.lt_or_ge m o with c | c
  · rw [if_neg (by omega), List.append_assoc, List.getElem?_append_left (by rw [List.length_take]; omega), List.getElem?_take_of_lt c]
  · rcases Nat.lt_or_ge m (o + p.length) with c2 | c2
    · have e : m - (F.take o).length = m - o := by rw [List.length_take]; omega
      rw [List.append_assoc, List.getElem?_append_right (by rw [List.length_take]; omega), List.getElem?_append_left (by rw [e, List.length_set]; omega), e, List.getElem?_set]
      by_cases hm : o + j = m
      · rw [if_pos hm, if_pos (by omega), if_pos (by omega), if_pos (by omega)]
      · rw [if_neg hm, if_neg (by omega), ← hg _ (by omega)]
        congr 1; omega
    · have e : (F.take o ++ p.set j v).length = o + p.length := by rw [List.length_append, List.length_take, List.length_set]; omega
      rw [if_neg (by omega), List.getElem?_append_right (by rw [e]; exact c2), List.getElem?_drop, e]
      congr 1; omega
/-- One cell of one part. -/
theorem flat_set (hk : ∀ x, (enc x).length = k) {l : List α} {i j : Nat} {x y : α} {v : Value} (hx : l[i]? = some x) (hj : j < k) (hy : (enc x).set j v = enc y) : (l.flatMap enc).set (i * k + j) v = (l.set i y).flatMap enc := by
  have hi := (List.getElem?_eq_some_iff.1 hx).1
  have hle : i * k + k ≤ (l.flatMap enc).length := by rw [flat_len hk]; have : (i + 1) * k ≤ l.length * k := Nat.mul_le_mul_right _ hi; rw [Nat.add_mul] at this; omega
  rw [← flat_splice hk y hi, ← hy, splice_set (by rw [hk]; exact flat_part hk hx) (by rw [hk]; exact hj) (by rw [hk]; exact hle)]
end flat
section
variable {P : Program} {n : Nat} {D : List Deferred} {T : Tm} {w : World} {dst : Option Nat} {ty : TypeId} {pos : String} {aft : Array Edge}
theorem addr_add0 (a : Option Addr) (k : Nat) : a.map (·.add (0 * k)) = a := by cases a <;> simp [Addr.add]
/-- A slice's beginning. -/
theorem run_sliceTo {t e : TypeId} {x : Operand} {hi : Option Operand} {j m cap sz : Nat} {a : Option Addr} (ht : P.underlying t = some (.slice e)) (hs : (P.info? e).map (·.size) = some sz) (hx : ev T x = some (.slice a m cap))
    (hh : match hi with | none => j = m | some o => ∃ k, ev T o = some (.int k (j : Int))) (hj : j ≤ cap) : Run P n D T w ⟨dst, .slice t x none hi none, ty, pos, aft, none⟩ (.slice a j cap) w := fun c f => by
  have := run_sliceL (P := P) (n := n) (D := D) (T := T) (w := w) (dst := dst) (ty := ty) (pos := pos) (aft := aft) (lo := none) (i := 0) ht hs hx rfl hh (Nat.zero_le _) hj c f
  rw [addr_add0, Nat.sub_zero, Nat.sub_zero] at this
  simpa using this
end
theorem St.own_shut {B w : World} {L : List HP} {p : Addr} {n cap k : Nat} {t : TypeId} {l pre sp : List Value} (h1 : p.spot = none) (h2 : p.off = pre.length) (h3 : l.length = n * k) (h4 : n ≤ cap) (h5 : l.length + sp.length = cap * k) (h : St B (cel p.block (pre ++ (l ++ sp)) t :: L) w) : St B (own (some p) n cap t k l :: L) w :=
  (St.join (St.addPure ⟨h1, h2, h3, h4, h5⟩ h)).give (pre, sp)
theorem St.own_take {B w : World} {L : List HP} {a : Option Addr} {n cap k m : Nat} {t : TypeId} {l : List Value} (h : St B (own a n cap t k l :: L) w) (hm : m ≤ n) : St B (own a m cap t k (l.take (m * k)) :: L) w := by
  cases a with
  | none =>
    obtain ⟨⟨rfl, rfl, rfl⟩, h0⟩ := h.pure
    have : m = 0 := by omega
    subst this
    simpa using St.own_nil t k h0
  | some p =>
    obtain ⟨q, hq⟩ := h.ex
    obtain ⟨⟨h1, h2, h3, h4, h5⟩, h6⟩ := hq.sep.pure
    have hmk : m * k ≤ n * k := Nat.mul_le_mul_right _ hm
    have e : l.take (m * k) ++ (l.drop (m * k) ++ q.2) = l ++ q.2 := by rw [← List.append_assoc, List.take_append_drop]
    refine St.own_shut (pre := q.1) (sp := l.drop (m * k) ++ q.2) h1 h2 ?_ (by omega) ?_ (by rw [e]; exact h6)
    · rw [List.length_take]; omega
    · rw [List.length_take, List.length_append, List.length_drop]; omega
theorem St.own_take_i {B w : World} {L : List HP} {a : Option Addr} {n cap k m : Nat} {t : TypeId} {l l' : List Value} (h : St B L w) (i : Nat) (hi : nth L i = some (own a n cap t k l)) (hm : m ≤ n) (hl : l.take (m * k) = l') {L' : List HP} (e : put L i (own a m cap t k l') = L') : St B L' w := by
  subst e; subst hl; exact St.unfocus hi ((h.focus i hi).own_take hm)
theorem u8s_noAgg (s : List UInt8) : (s.map fun b => Value.int .u8 b.toNat).all noAgg = true := by simp [noAgg]
theorem notB_t {b : Bool} (h : b = true) : (!b) = false := by rw [h]; rfl
theorem notB_f {b : Bool} (h : b = false) : (!b) = true := by rw [h]; rfl
/-! Maps from strings. -/
def entL (es : List (List UInt8 × Value)) (bl : List Nat) : List MapEntry := (es.zip bl).map fun p => (⟨str p.1.1, p.1.2, p.2⟩ : MapEntry)
/-- An owned map: its entries in the order in which they stand. -/
def mpS (r : Nat) (es : List (List UInt8 × Value)) : HP := .ex fun x : List Nat × Nat => .sep (.pure (x.1.length = es.length ∧ x.1.Nodup ∧ ∀ b ∈ x.1, b < x.2))
  (.blk r (.map (entL es x.1).toArray x.2))
def getS (es : List (List UInt8 × Value)) (k : List UInt8) : Option Value := match es with
  | [] => none
  | (q, v) :: l => if k = q then some v else getS l k
def putS (es : List (List UInt8 × Value)) (k : List UInt8) (v : Value) : List (List UInt8 × Value) := match es with
  | [] => [(k, v)]
  | (q, u) :: l => if k = q then (q, v) :: l else (q, u) :: putS l k v
theorem strBeq (a b : List UInt8) : (bs a == bs b) = decide (a = b) := by
  rw [beq_toListBytes, bs_toList, bs_toList]
  by_cases h : a = b <;> simp [h]
variable {B w : World} {L : List HP}
section
variable {P : Program} {n : Nat} {D : List Deferred} {T : Tm} {dst : Option Nat} {ty : TypeId} {pos : String} {aft : Array Edge} {ops : Array Oper} {rest : List Oper} {Q : Exit → Act → World → Prop}
theorem findNow_S (k : List UInt8) : ∀ (es : List (List UInt8 × Value)) (bs' : List Nat) (i : Nat), bs'.length = es.length →
    ∃ o, Instr.findNow .string (str k) (entL es bs') i = some o ∧ o.map (·.2) = getS es k
  | [], _, i, _ => ⟨none, by simp [entL, Instr.findNow], rfl⟩
  | (q, v) :: l, [], i, h => by simp at h
  | (q, v) :: l, b :: bl, i, h => by
    simp only [entL, List.zip_cons_cons, List.map_cons, Instr.findNow, Instr.sameNow, strBeq]
    unfold getS
    by_cases e : k = q
    · simp [e]
    · simp only [decide_eq_false e, if_neg e]
      exact findNow_S k l bl (i + 1) (by simpa using h)
theorem run_checkKeyS {kt : TypeId} (hk : P.underlying kt = some .string) (b : Bool) (k : List UInt8) (w : World) : (Instr.checkKey b 10000 kt (str k)).run P w = .ok () w := by
  show (Instr.checkKey b (9999 + 1) kt (str k)).run P w = .ok () w
  unfold Instr.checkKey
  simp only [Sem.run_bind, run_underlying hk, Result.andThen_ok]
  rfl
theorem run_getMap {r : Nat} {es : Array MapEntry} {c : Nat} (h : w.heap[r]? = some (.map es c)) : (getObj r).run P w = .ok (.map es c) w := by
  simp [getObj, Sem.run, h]
theorem run_findKeyS {kt : TypeId} (hk : P.underlying kt = some .string) (k : List UInt8) (es : List MapEntry) {o : Option (Nat × Value)} (h : Instr.findNow .string (str k) es 0 = some o) (w : World) : (Instr.findKey kt (str k) es).run P w = .ok o w := by
  simp only [Instr.findKey, Sem.run_bind, run_underlying hk, Result.andThen_ok, h]
  rfl
/-- A look-up's value. -/
theorem run_lookS {t e r kt : TypeId} {k : List UInt8} {es : List (List UInt8 × Value)} {z : Value} (i : Nat) (hS : St B L w) (hi : nth L i = some (mpS r es)) (ht : P.underlying t = some (.map kt e)) (hk : P.underlying kt = some .string) (hz : zeroB P e = some z) (ok : Bool) :
    (Instr.lookup t (.map (some r)) (str k) ok).run P w = .ok (if ok then .tuple #[(getS es k).getD z, .bool (getS es k).isSome] else (getS es k).getD z) w := by
  obtain ⟨q, h1⟩ := (hS.focus i hi).ex
  obtain ⟨⟨h2, h3, h4⟩, h5⟩ := h1.sep.pure
  obtain ⟨o, ho, hg⟩ := findNow_S k es q.1 0 h2
  have hb := h5.at
  rw [← hg]
  simp only [Instr.lookup, Sem.run_bind, run_underlying ht, Result.andThen_ok, run_getMap hb, Sem.run_pure, run_checkKeyS hk, run_findKeyS hk k _ ho]
  cases o with
  | none => simp only [Sem.run_bind, run_zero hz, Result.andThen_ok, Sem.run_pure]; cases ok <;> rfl
  | some p => simp only [Sem.run_pure, Result.andThen_ok]; cases ok <;> rfl
theorem run_lookupS {t e : TypeId} {x y : Operand} {r kt : TypeId} {k : List UInt8} {es : List (List UInt8 × Value)} {z v : Value} (i : Nat) (hS : St B L w) (hi : nth L i = some (mpS r es)) (ht : P.underlying t = some (.map kt e)) (hk : P.underlying kt = some .string) (hz : zeroB P e = some z)
    (hx : ev T x = some (.map (some r))) (hy : ev T y = some (str k)) (hv : (getS es k).getD z = v) : Run P n D T w ⟨dst, .lookup t x y false, ty, pos, aft, none⟩ v w := fun c f => by
  subst hv
  have := run_lookS (P := P) i hS hi ht hk hz (k := k) false
  simp only [execOp, f.ev hx, f.ev hy, Sem.run_bind, this, Result.andThen_ok]
  rfl
theorem run_lookupSok {t e : TypeId} {x y : Operand} {r kt : TypeId} {k : List UInt8} {es : List (List UInt8 × Value)} {z v : Value} {b : Bool} (i : Nat) (hS : St B L w) (hi : nth L i = some (mpS r es)) (ht : P.underlying t = some (.map kt e)) (hk : P.underlying kt = some .string) (hz : zeroB P e = some z)
    (hx : ev T x = some (.map (some r))) (hy : ev T y = some (str k)) (hv : (getS es k).getD z = v) (hb : (getS es k).isSome = b) : Run P n D T w ⟨dst, .lookup t x y true, ty, pos, aft, none⟩ (.tuple #[v, .bool b]) w := fun c f => by
  subst hv; subst hb
  have := run_lookS (P := P) i hS hi ht hk hz (k := k) true
  simp only [execOp, f.ev hx, f.ev hy, Sem.run_bind, this, Result.andThen_ok]
  rfl
theorem St.mpS_shut {r c : Nat} {es : List (List UInt8 × Value)} {bl : List Nat} (h1 : bl.length = es.length) (h2 : bl.Nodup) (h3 : ∀ b ∈ bl, b < c) (h : St B (.blk r (.map (entL es bl).toArray c) :: L) w) : St B (mpS r es :: L) w :=
  (St.join (St.addPure ⟨h1, h2, h3⟩ h)).give (bl, c)
theorem entL_snoc {es : List (List UInt8 × Value)} {bl : List Nat} (h : bl.length = es.length) (k : List UInt8) (v : Value) (b : Nat) : entL (es ++ [(k, v)]) (bl ++ [b]) = entL es bl ++ [⟨str k, v, b⟩] := by
  unfold entL; rw [List.zip_append h.symm]; simp
theorem entL_set (k : List UInt8) (v : Value) : ∀ (es : List (List UInt8 × Value)) (bl : List Nat) (j : Nat), (entL es bl).modify j (fun e => { e with key := str k, val := v }) = entL (es.set j (k, v)) bl
  | [], bl, j => by simp [entL]
  | e :: es, [], j => by simp [entL]
  | e :: es, b :: bl, 0 => by simp [entL]
  | e :: es, b :: bl, j + 1 => by
    have := entL_set k v es bl j
    simp only [entL] at this ⊢
    simp [this]
theorem entL_get {es : List (List UInt8 × Value)} {bl : List Nat} (h : bl.length = es.length) {j : Nat} {k : List UInt8} {v : Value} (hj : es[j]? = some (k, v)) : ∃ b, (entL es bl)[j]? = some ⟨str k, v, b⟩ := by
  have hlt := (List.getElem?_eq_some_iff.1 hj).1
  refine ⟨bl[j]'(by omega), ?_⟩
  have hz : (es.zip bl)[j]? = some ((k, v), bl[j]'(by omega)) := by rw [List.getElem?_zip_eq_some]; exact ⟨hj, List.getElem?_eq_getElem _⟩
  unfold entL
  rw [List.getElem?_map, hz]; rfl
theorem St.mpS_new (hS : St B L w) : St B (mpS w.heap.size [] :: L) (w.alloc (.map #[] 0)) := by
  have h0 : St B (.blk w.heap.size (.map #[] 0) :: L) (w.alloc (.map #[] 0)) := hS.new (.map #[] 0) rfl rfl rfl rfl
  exact St.mpS_shut (es := []) (bl := []) rfl List.nodup_nil (fun _ h => by cases h) h0
theorem WO.makeMap {t d : Nat} (hS : St B L w) (hn : Nat.blt d n = true) (h : ∀ r w', St B (mpS r [] :: L) w' → WO P n D ops Q rest ((d, .map (some r)) :: T) w') : WO P n D ops Q (⟨some d, .makeMap t none, ty, pos, aft, none⟩ :: rest) T w :=
  WO.val (v := .map (some w.heap.size)) (w' := w.alloc (.map #[] 0)) (fun c fc => by simp [execOp, Instr.makeMap, newObj, Sem.run]) rfl rfl hn
    (h _ _ (St.mpS_new hS))
theorem run_lenMapS {t e kt : TypeId} {x : Operand} {r : Nat} {es : List (List UInt8 × Value)} {ts : Array TypeId} (i : Nat) (hS : St B L w) (hi : nth L i = some (mpS r es)) (hts : ts = #[t]) (ht : P.underlying t = some (.map kt e)) (hx : ev T x = some (.map (some r))) : Run P n D T w ⟨dst, .call ⟨.builtin .len, #[x], ts⟩, ty, pos, aft, none⟩ (.int .i64 es.length) w := fun c f => by
  subst hts
  obtain ⟨q, h1⟩ := (hS.focus i hi).ex
  obtain ⟨⟨h2, h3, h4⟩, h5⟩ := h1.sep.pure
  have hb := h5.at
  simp [execOp, resolve, f.ev hx, invoke, builtin, Builtin.len_, run_underlying ht, run_getMap hb, goInt]
  simp [entL, h2]
theorem findNow_at (k : List UInt8) : ∀ (es : List (List UInt8 × Value)) (bs' : List Nat) (i : Nat) {j : Nat} {v : Value}, bs'.length = es.length →
    Instr.findNow .string (str k) (entL es bs') i = some (some (j, v)) → ∃ m q, j = i + m ∧ es[m]? = some (q, v) ∧ q = k ∧ ∀ u, putS es k u = es.set m (k, u)
  | [], bl, i, j, v, _, h => by simp [entL, Instr.findNow] at h
  | (q, u) :: l, [], i, j, v, h, _ => by simp at h
  | (q, u) :: l, b :: bl, i, j, v, hl, h => by
    simp only [entL, List.zip_cons_cons, List.map_cons, Instr.findNow, Instr.sameNow, strBeq] at h
    by_cases e : k = q
    · simp [e] at h
      exact ⟨0, q, by omega, by simp [h.2], e.symm, fun u' => by simp [putS, e]⟩
    · simp only [decide_eq_false e] at h
      obtain ⟨m, q', h1, h2, h3, h4⟩ := findNow_at k l bl (i + 1) (by simpa using hl) h
      exact ⟨m + 1, q', by omega, by simpa using h2, h3, fun u' => by simp [putS, e, h4 u']⟩
theorem findNow_none (k : List UInt8) : ∀ (es : List (List UInt8 × Value)) (bs' : List Nat) (i : Nat), bs'.length = es.length →
    Instr.findNow .string (str k) (entL es bs') i = some none → ∀ u, putS es k u = es ++ [(k, u)]
  | [], bl, i, _, h, u => rfl
  | (q, x) :: l, [], i, h, _, _ => by simp at h
  | (q, x) :: l, b :: bl, i, hl, h, u => by
    simp only [entL, List.zip_cons_cons, List.map_cons, Instr.findNow, Instr.sameNow, strBeq] at h
    by_cases e : k = q
    · simp [e] at h
    · simp only [decide_eq_false e] at h
      simp [putS, e, findNow_none k l bl (i + 1) (by simpa using hl) h u]
theorem sameBits_str (a : List UInt8) (n : Nat) : Instr.sameBits n (str a) (str a) = true := by
  cases n <;> simp [Instr.sameBits, strBeq]
/-- A store into a map. -/
theorem WO.mapUpdateS {t e kt : TypeId} {x y z : Operand} {r : Nat} {k : List UInt8} {v : Value} {es : List (List UInt8 × Value)} (i : Nat) (hS : St B L w) (hi : nth L i = some (mpS r es)) (ht : P.underlying t = some (.map kt e)) (hk : P.underlying kt = some .string)
    (hx : ev T x = some (.map (some r))) (hy : ev T y = some (str k)) (hz : ev T z = some v) (h : ∀ w', St B (put L i (mpS r (putS es k v))) w' → WO P n D ops Q rest T w') : WO P n D ops Q (⟨none, .mapUpdate t x y z, ty, pos, aft, none⟩ :: rest) T w := fun c f => by
  have hF := hS.focus i hi
  obtain ⟨q, h1⟩ := hF.ex
  obtain ⟨⟨h2, h3, h4⟩, h5⟩ := h1.sep.pure
  obtain ⟨o, ho, hg⟩ := findNow_S k es q.1 0 h2
  have hb := h5.at
  have hset : ∀ (o' : Obj), (setObj r o').run P w = .ok () { w with heap := w.heap.setIfInBounds r o' } := fun o' => by simp [setObj, Sem.run, hb]
  have hwr : ∀ (o' : Obj), St B (.blk r o' :: del L i) { w with heap := w.heap.setIfInBounds r o' } := fun o' =>
    h5.write (fun k hk => by simp [Array.getElem?_setIfInBounds_ne (Ne.symm hk)]) (by simp [h5.lt]) rfl rfl rfl
  cases o with
  | none =>
    have hp := findNow_none k es q.1 0 h2 ho v
    refine WO.eff (w' := { w with heap := w.heap.setIfInBounds r (.map (entL (es ++ [(k, v)]) (q.1 ++ [q.2])).toArray (q.2 + 1)) }) (fun b fb => ?_) rfl rfl (h _ ?_) c f
    · have hpush : (entL es q.1).toArray.push ⟨str k, v, q.2⟩ = (entL (es ++ [(k, v)]) (q.1 ++ [q.2])).toArray := by rw [entL_snoc h2]; apply Array.ext'; simp
      simp only [execOp, fb.ev hx, fb.ev hy, fb.ev hz, Instr.mapUpdate, Sem.run_bind, run_underlying ht, Result.andThen_ok, run_getMap hb, run_checkKeyS hk, run_findKeyS hk k _ ho, hpush, hset]
      rfl
    · refine St.unfocus hi ?_
      rw [hp]
      refine St.mpS_shut ?_ ?_ ?_ (hwr _)
      · rw [List.length_append, List.length_append, h2]; rfl
      · rw [List.nodup_append]; exact ⟨h3, by simp, fun a ha b hb e => by simp at hb; subst hb; subst e; exact absurd (h4 _ ha) (by omega)⟩
      · intro b hb; rcases List.mem_append.1 hb with hb | hb
        · have := h4 b hb; omega
        · simp at hb; omega
  | some p =>
    obtain ⟨j, u⟩ := p
    obtain ⟨m, qk, hj, hm, rfl, hp⟩ := findNow_at k es q.1 0 h2 ho
    have hjm : j = m := by omega
    subst hjm
    obtain ⟨bj, hent⟩ := entL_get h2 hm
    have hnew : ((entL es q.1).toArray.modify j fun e => { e with key := str qk, val := v }) = (entL (es.set j (qk, v)) q.1).toArray := by
      apply Array.ext'
      rw [Array.toList_modify]
      exact entL_set qk v es q.1 j
    refine WO.eff (w' := { w with heap := w.heap.setIfInBounds r (.map (entL (es.set j (qk, v)) q.1).toArray q.2) }) (fun b fb => ?_) rfl rfl (h _ ?_) c f
    · have hkey : (Instr.keyThatStays (str qk) (str qk)).run P w = .ok (str qk) w := by unfold Instr.keyThatStays; rw [if_pos (sameBits_str qk 10000)]; rfl
      simp only [execOp, fb.ev hx, fb.ev hy, fb.ev hz, Instr.mapUpdate, Sem.run_bind, run_underlying ht, Result.andThen_ok, run_getMap hb, run_checkKeyS hk, run_findKeyS hk qk _ ho, List.getElem?_toArray, hent, Option.map_some, Option.getD_some, hkey, hnew, hset]
      rfl
    · refine St.unfocus hi ?_
      rw [hp]
      exact St.mpS_shut (by rw [List.length_set]; exact h2) h3 h4 (hwr _)
end
/-! Entries are left out, in one step; short forms of rules. -/
def maskL : List Bool → List HP → List HP
  | [], L => L
  | true :: bs, a :: L => a :: maskL bs L
  | false :: bs, _ :: L => maskL bs L
  | _ :: _, [] => []
theorem HP.mask {Z : PH} : ∀ (bs : List Bool) (L : List HP) {p : PH}, (HP.all L).sat Z p → (HP.all (maskL bs L)).sat Z p
  | [], _, _, s => s
  | true :: _, [], _, s => s
  | false :: _, [], _, s => s
  | true :: bs, _ :: L, _, s => HP.sep_imp (fun _ => HP.mask bs L) s
  | false :: bs, _ :: L, _, ⟨_, _, _, _, l2, _, s⟩ => HP.mask bs L (HP.mono (Le.refl _) _ l2 s)
theorem St.mask {B w : World} {L : List HP} (h : St B L w) (bs : List Bool) {L' : List HP} (e : maskL bs L = L') : St B L' w := e ▸ h.imp fun _ _ => HP.mask bs L
section
variable {P : Program} {n : Nat} {D : List Deferred} {T : Tm} {w : World} {Q : Exit → Act → World → Prop} {ops : Array Oper} {S : World → Prop} {ds : List Nat} {rest : List Oper}
variable {i m d j t : Nat} {o : Oper} {v : Value} {b c : Bool} {op : Op} {ty : TypeId} {pos : String} {aft : Array Edge} {l : Array Bool} {tab : Bool × List (List Nat × List Nat)}
open Go.Proofs.YtidoidoelgfnaaaGreatDoorW.PrintLast
theorem dcase {p : Prop} [Decidable p] {G : Prop} (h1 : p → decide p = true → G) (h2 : ¬ p → decide p = false → G) : G := by
  by_cases h : p
  · exact h1 h (decide_eq_true h)
  · exact h2 h (decide_eq_false h)
theorem WO.V {w' : World} (hr : Run P n D T w o v w') (h : WO P n D ops Q rest ((d, v) :: T) w') (hg : o.guard = none := by exact rfl) (hd : o.dst = some d := by exact rfl) (hn : Nat.blt d n = true := by exact rfl) : WO P n D ops Q (o :: rest) T w := WO.val hr hg hd hn h
theorem run_fa {dst : Option Nat} {s : TypeId} {x : Operand} {i : Nat} {p : Addr} (k : Nat) (q : Addr) (hx : ev T x = some (.pointer (some p))) (hq : p.add k = q) (hf : fieldB P s i = some k := by kernel_rfl) : Run P n D T w ⟨dst, .fieldAddr s x i, ty, pos, aft, none⟩ (.pointer (some q)) w := run_fieldAddr hf hx hq
theorem DP (ht : rtab .any ops = tab) (l' : Array Bool) (hi : ops[i]? = some o) (hd : o.dst = some d) (hg : o.guard = none) (hn : Nat.blt d n = true)
    (hr : ∀ w, Run P n D T w o v w) (h : WD P n D ops Q S ds m l' ((d, v) :: T) w) (hc : anyT tab l.toList l'.toList i = true := by kernel_rfl) (hQ : PQ Q := by with_reducible repeat (first | exact PQ.body | apply PQ.then | apply PQ.blk)) : WD P n D ops Q S ds (m + 1) l T w := WD.pure ht l' hi hd hg hc hQ hn hr h
theorem DT (ht : rtab .any ops = tab) (l' : Array Bool) (hs : S w) (hi : ops[i]? = some o) (hd : o.dst = some d) (hg : o.guard = none) (hn : Nat.blt d n = true)
    (hr : ∀ w, S w → Run P n D T w o v w) (h : WD P n D ops Q S ds m l' ((d, v) :: T) w) (hc : takeT tab ds l.toList l'.toList i = true := by kernel_rfl) (hQ : PQ Q := by with_reducible repeat (first | exact PQ.body | apply PQ.then | apply PQ.blk)) : WD P n D ops Q S ds (m + 1) l T w := WD.take ht l' hs hi hd hg hc hQ hn hr h
theorem DPn (ht : rtab .any ops = tab) (l' : Array Bool) (hi : ops[i]? = some ⟨some d, op, ty, pos, aft, some (j, b)⟩)
    (hj : (ops[j]?).bind (·.dst) = some t) (hl : look T t = some (.bool c)) (e : c = b) (hn : Nat.blt d n = true)
    (hr : ∀ w, Run P n D T w ⟨some d, op, ty, pos, aft, none⟩ v w) (h : WD P n D ops Q S ds m l' ((d, v) :: T) w) (hc : anyT tab l.toList l'.toList i = true := by kernel_rfl) (hQ : PQ Q := by with_reducible repeat (first | exact PQ.body | apply PQ.then | apply PQ.blk)) : WD P n D ops Q S ds (m + 1) l T w := WD.pureOn ht l' hi hj hl e hc hQ hn hr h
theorem DTn (ht : rtab .any ops = tab) (l' : Array Bool) (hs : S w) (hi : ops[i]? = some ⟨some d, op, ty, pos, aft, some (j, b)⟩)
    (hj : (ops[j]?).bind (·.dst) = some t) (hl : look T t = some (.bool c)) (e : c = b) (hn : Nat.blt d n = true)
    (hr : ∀ w, S w → Run P n D T w ⟨some d, op, ty, pos, aft, none⟩ v w) (h : WD P n D ops Q S ds m l' ((d, v) :: T) w) (hc : takeT tab ds l.toList l'.toList i = true := by kernel_rfl) (hQ : PQ Q := by with_reducible repeat (first | exact PQ.body | apply PQ.then | apply PQ.blk)) : WD P n D ops Q S ds (m + 1) l T w := WD.takeOn ht l' hs hi hj hl e hc hQ hn hr h
theorem DO (ht : rtab .any ops = tab) (l' : Array Bool) (hi : ops[i]? = some ⟨some d, op, ty, pos, aft, some (j, b)⟩)
    (hj : (ops[j]?).bind (·.dst) = some t) (hl : look T t = some (.bool c)) (e : c = !b) (hn : Nat.blt d n = true)
    (h : WD P n D ops Q S ds m l' ((d, undef) :: T) w) (hc : anyT tab l.toList l'.toList i = true := by kernel_rfl) (hQ : PQ Q := by with_reducible repeat (first | exact PQ.body | apply PQ.then | apply PQ.blk)) : WD P n D ops Q S ds (m + 1) l T w := WD.off ht l' hi hj hl e hc hQ hn h
theorem DU (ht : rtab .any ops = tab) (l' : Array Bool) (hi : ops[i]? = some ⟨some d, op, ty, pos, aft, some (j, b)⟩)
    (hj : (ops[j]?).bind (·.dst) = some t) (hl : look T t = some undef) (hn : Nat.blt d n = true)
    (h : WD P n D ops Q S ds m l' ((d, undef) :: T) w) (hc : anyT tab l.toList l'.toList i = true := by kernel_rfl) (hQ : PQ Q := by with_reducible repeat (first | exact PQ.body | apply PQ.then | apply PQ.blk)) : WD P n D ops Q S ds (m + 1) l T w := WD.offU ht l' hi hj hl hc hQ hn h
end
end Go.Proofs.YtidoidoelgfnaaaGreatDoor.SL
