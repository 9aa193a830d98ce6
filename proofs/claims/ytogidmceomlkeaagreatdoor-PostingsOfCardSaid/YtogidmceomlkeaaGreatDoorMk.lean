/- Maps whose keys are of any kind that is compared by one law. -/
import Derived.Test.YtogidmceomlkeaaGreatDoorSl9
import Derived.Laws.StructEq
namespace Go.Proofs.YtogidmceomlkeaaGreatDoor.SL
open Go.RowKit
set_option linter.unusedVariables false
set_option linter.unusedSectionVars false
set_option linter.unusedSimpArgs false
section
variable {κ : Type} [DecidableEq κ] {enc : κ → Value} {P : Program}
def fk (k : κ) : List κ → List MapEntry → Nat → Option (Nat × Value)
  | q :: ks, e :: es, i => if k = q then some (i, e.val) else fk k ks es (i + 1)
  | _, _, _ => none
/-- How a type's values serve as keys. -/
structure KeyL (P : Program) (kt : TypeId) (enc : κ → Value) : Prop where
  chk : ∀ b k w, (Instr.checkKey b 10000 kt (enc k)).run P w = .ok () w
  find : ∀ k (ks : List κ) (es : List MapEntry) w, es.map (·.key) = ks.map enc → (Instr.findKey kt (enc k) es).run P w = .ok (fk k ks es 0) w
  same : ∀ k, Instr.sameBits 10000 (enc k) (enc k) = true
def entK (enc : κ → Value) (es : List (κ × Value)) (bl : List Nat) : List MapEntry := (es.zip bl).map fun p => (⟨enc p.1.1, p.1.2, p.2⟩ : MapEntry)
/-- An owned map: its entries in the order in which they stand. -/
def mpK (enc : κ → Value) (r : Nat) (es : List (κ × Value)) : HP := .ex fun x : List Nat × Nat => .sep (.pure (x.1.length = es.length ∧ x.1.Nodup ∧ ∀ b ∈ x.1, b < x.2))
  (.blk r (.map (entK enc es x.1).toArray x.2))
def getK (es : List (κ × Value)) (k : κ) : Option Value := match es with
  | [] => none
  | (q, v) :: l => if k = q then some v else getK l k
def putK (es : List (κ × Value)) (k : κ) (v : Value) : List (κ × Value) := match es with
  | [] => [(k, v)]
  | (q, u) :: l => if k = q then (q, v) :: l else (q, u) :: putK l k v
theorem entK_keys : ∀ (es : List (κ × Value)) (bl : List Nat), bl.length = es.length → (entK enc es bl).map (·.key) = (es.map (·.1)).map enc
  | [], _, _ => by simp [entK]
  | e :: es, [], h => by simp at h
  | e :: es, b :: bl, h => by
    have := entK_keys es bl (by simpa using h)
    simp only [entK, List.zip_cons_cons, List.map_cons] at this ⊢
    rw [this]
theorem fk_get (k : κ) : ∀ (es : List (κ × Value)) (bl : List Nat) (i : Nat), bl.length = es.length → (fk k (es.map (·.1)) (entK enc es bl) i).map (·.2) = getK es k
  | [], _, i, _ => rfl
  | (q, v) :: l, [], i, h => by simp at h
  | (q, v) :: l, b :: bl, i, h => by
    simp only [entK, List.zip_cons_cons, List.map_cons, fk, getK]
    split
    · rfl
    · exact fk_get k l bl (i + 1) (by simpa using h)
theorem fk_at (k : κ) : ∀ (es : List (κ × Value)) (bl : List Nat) (i : Nat) {j : Nat} {v : Value}, bl.length = es.length → fk k (es.map (·.1)) (entK enc es bl) i = some (j, v) → ∃ m, j = i + m ∧ es[m]? = some (k, v) ∧ ∀ u, putK es k u = es.set m (k, u)
  | [], bl, i, j, v, _, h => by simp [fk] at h
  | (q, u) :: l, [], i, j, v, h, _ => by simp at h
  | (q, u) :: l, b :: bl, i, j, v, hl, h => by
    simp only [entK, List.zip_cons_cons, List.map_cons, fk] at h
    by_cases e : k = q
    · simp [e] at h
      exact ⟨0, by omega, by simp [h.2, e], fun u' => by simp [putK, e]⟩
    · rw [if_neg e] at h
      obtain ⟨m, h1, h2, h4⟩ := fk_at k l bl (i + 1) (by simpa using hl) h
      exact ⟨m + 1, by omega, by simpa using h2, fun u' => by simp [putK, e, h4 u']⟩
theorem fk_none (k : κ) : ∀ (es : List (κ × Value)) (bl : List Nat) (i : Nat), bl.length = es.length → fk k (es.map (·.1)) (entK enc es bl) i = none → ∀ u, putK es k u = es ++ [(k, u)]
  | [], bl, i, _, h, u => rfl
  | (q, x) :: l, [], i, h, _, _ => by simp at h
  | (q, x) :: l, b :: bl, i, hl, h, u => by
    simp only [entK, List.zip_cons_cons, List.map_cons, fk] at h
    by_cases e : k = q
    · simp [e] at h
    · rw [if_neg e] at h
      simp [putK, e, fk_none k l bl (i + 1) (by simpa using hl) h u]
variable {n : Nat} {D : List Deferred} {T : Tm} {dst : Option Nat} {ty : TypeId} {pos : String} {aft : Array Edge} {ops : Array Oper} {rest : List Oper} {Q : Exit → Act → World → Prop} {B w : World} {L : List HP}
/-- What stands at a map. -/
def MpAt (w : World) (enc : κ → Value) (r : Nat) (es : List (κ × Value)) : Prop := ∃ q : List Nat × Nat, q.1.length = es.length ∧ w.heap[r]? = some (.map (entK enc es q.1).toArray q.2)
theorem St.mpK_at {r : Nat} {es : List (κ × Value)} (hS : St B L w) (i : Nat) (hi : nth L i = some (mpK enc r es)) : MpAt w enc r es := by
  obtain ⟨q, h1⟩ := (hS.focus i hi).ex
  obtain ⟨⟨h2, _, _⟩, h5⟩ := h1.sep.pure
  exact ⟨q, h2, h5.at⟩
theorem run_lookK {t e r kt : TypeId} {k : κ} {es : List (κ × Value)} {z : Value} (K : KeyL P kt enc) (hM : MpAt w enc r es) (ht : P.underlying t = some (.map kt e)) (hz : zeroB P e = some z) (ok : Bool) :
    (Instr.lookup t (.map (some r)) (enc k) ok).run P w = .ok (if ok then .tuple #[(getK es k).getD z, .bool (getK es k).isSome] else (getK es k).getD z) w := by
  obtain ⟨q, h2, hb⟩ := hM
  have ho := K.find k (es.map (·.1)) (entK enc es q.1) w (entK_keys es q.1 h2)
  have hg := fk_get (enc := enc) k es q.1 0 h2
  rw [← hg]
  simp only [Instr.lookup, Sem.run_bind, run_underlying ht, Result.andThen_ok, run_getMap hb, Sem.run_pure, K.chk, ho]
  cases fk k (es.map (·.1)) (entK enc es q.1) 0 with
  | none => simp only [Sem.run_bind, run_zero hz, Result.andThen_ok, Sem.run_pure]; cases ok <;> rfl
  | some p => simp only [Sem.run_pure, Result.andThen_ok]; cases ok <;> rfl
theorem run_lookupK {t e : TypeId} {x y : Operand} {r kt : TypeId} {k : κ} {es : List (κ × Value)} {z v kv : Value} (K : KeyL P kt enc) (hM : MpAt w enc r es) (ht : P.underlying t = some (.map kt e)) (hz : zeroB P e = some z)
    (hx : ev T x = some (.map (some r))) (hy : ev T y = some kv) (hkv : kv = enc k) (hv : (getK es k).getD z = v) : Run P n D T w ⟨dst, .lookup t x y false, ty, pos, aft, none⟩ v w := fun c f => by
  subst hv; subst hkv
  have := run_lookK (P := P) K hM ht hz (k := k) false
  simp only [execOp, f.ev hx, f.ev hy, Sem.run_bind, this, Result.andThen_ok]
  rfl
theorem run_lookupKok {t e : TypeId} {x y : Operand} {r kt : TypeId} {k : κ} {es : List (κ × Value)} {z v kv : Value} {b : Bool} (K : KeyL P kt enc) (hM : MpAt w enc r es) (ht : P.underlying t = some (.map kt e)) (hz : zeroB P e = some z)
    (hx : ev T x = some (.map (some r))) (hy : ev T y = some kv) (hkv : kv = enc k) (hv : (getK es k).getD z = v) (hb : (getK es k).isSome = b) : Run P n D T w ⟨dst, .lookup t x y true, ty, pos, aft, none⟩ (.tuple #[v, .bool b]) w := fun c f => by
  subst hv; subst hb; subst hkv
  have := run_lookK (P := P) K hM ht hz (k := k) true
  simp only [execOp, f.ev hx, f.ev hy, Sem.run_bind, this, Result.andThen_ok]
  rfl
theorem St.mpK_shut {r c : Nat} {es : List (κ × Value)} {bl : List Nat} (h1 : bl.length = es.length) (h2 : bl.Nodup) (h3 : ∀ b ∈ bl, b < c) (h : St B (.blk r (.map (entK enc es bl).toArray c) :: L) w) : St B (mpK enc r es :: L) w :=
  (St.join (St.addPure ⟨h1, h2, h3⟩ h)).give (bl, c)
theorem entK_snoc {es : List (κ × Value)} {bl : List Nat} (h : bl.length = es.length) (k : κ) (v : Value) (b : Nat) : entK enc (es ++ [(k, v)]) (bl ++ [b]) = entK enc es bl ++ [⟨enc k, v, b⟩] := by
  unfold entK; rw [List.zip_append h.symm]; simp
theorem entK_set (k : κ) (v : Value) : ∀ (es : List (κ × Value)) (bl : List Nat) (j : Nat), (entK enc es bl).modify j (fun e => { e with key := enc k, val := v }) = entK enc (es.set j (k, v)) bl
  | [], bl, j => by simp [entK]
  | e :: es, [], j => by simp [entK]
  | e :: es, b :: bl, 0 => by simp [entK]
  | e :: es, b :: bl, j + 1 => by
    have := entK_set k v es bl j
    simp only [entK] at this ⊢
    simp [this]
theorem entK_get {es : List (κ × Value)} {bl : List Nat} (h : bl.length = es.length) {j : Nat} {k : κ} {v : Value} (hj : es[j]? = some (k, v)) : ∃ b, (entK enc es bl)[j]? = some ⟨enc k, v, b⟩ := by
  have hlt := (List.getElem?_eq_some_iff.1 hj).1
  refine ⟨bl[j]'(by omega), ?_⟩
  have hz : (es.zip bl)[j]? = some ((k, v), bl[j]'(by omega)) := by rw [List.getElem?_zip_eq_some]; exact ⟨hj, List.getElem?_eq_getElem _⟩
  unfold entK
  rw [List.getElem?_map, hz]; rfl
theorem WO.makeMapK {t d : Nat} (enc : κ → Value) (hS : St B L w) (hn : Nat.blt d n = true) (h : ∀ r w', St B (mpK enc r [] :: L) w' → WO P n D ops Q rest ((d, .map (some r)) :: T) w') : WO P n D ops Q (⟨some d, .makeMap t none, ty, pos, aft, none⟩ :: rest) T w :=
  WO.val (v := .map (some w.heap.size)) (w' := w.alloc (.map #[] 0)) (fun c fc => by simp [execOp, Instr.makeMap, newObj, Sem.run]) rfl rfl hn
    (h _ _ (St.mpK_shut (es := []) (bl := []) rfl List.nodup_nil (fun _ h => by cases h) (hS.new (.map #[] 0) rfl rfl rfl rfl)))
theorem run_lenMapK {t e kt : TypeId} {x : Operand} {r : Nat} {es : List (κ × Value)} {ts : Array TypeId} (i : Nat) (hS : St B L w) (hi : nth L i = some (mpK enc r es)) (hts : ts = #[t]) (ht : P.underlying t = some (.map kt e)) (hx : ev T x = some (.map (some r))) : Run P n D T w ⟨dst, .call ⟨.builtin .len, #[x], ts⟩, ty, pos, aft, none⟩ (.int .i64 es.length) w := fun c f => by
  subst hts
  obtain ⟨q, h1⟩ := (hS.focus i hi).ex
  obtain ⟨⟨h2, h3, h4⟩, h5⟩ := h1.sep.pure
  have hb := h5.at
  simp [execOp, resolve, f.ev hx, invoke, builtin, Builtin.len_, run_underlying ht, run_getMap hb, goInt]
  simp [entK, h2]
theorem WO.mapUpdateK {t e kt : TypeId} {x y z : Operand} {r : Nat} {k : κ} {v kv : Value} {es : List (κ × Value)} (K : KeyL P kt enc) (i : Nat) (hS : St B L w) (hi : nth L i = some (mpK enc r es)) (ht : P.underlying t = some (.map kt e))
    (hx : ev T x = some (.map (some r))) (hy : ev T y = some kv) (hkv : kv = enc k) (hz : ev T z = some v) (h : ∀ w', St B (put L i (mpK enc r (putK es k v))) w' → WO P n D ops Q rest T w') : WO P n D ops Q (⟨none, .mapUpdate t x y z, ty, pos, aft, none⟩ :: rest) T w := fun c f => by
  subst hkv
  have hF := hS.focus i hi
  obtain ⟨q, h1⟩ := hF.ex
  obtain ⟨⟨h2, h3, h4⟩, h5⟩ := h1.sep.pure
  have ho := K.find k (es.map (·.1)) (entK enc es q.1) w (entK_keys es q.1 h2)
  have hb := h5.at
  have hset : ∀ (o' : Obj), (setObj r o').run P w = .ok () { w with heap := w.heap.setIfInBounds r o' } := fun o' => by simp [setObj, Sem.run, hb]
  have hwr : ∀ (o' : Obj), St B (.blk r o' :: del L i) { w with heap := w.heap.setIfInBounds r o' } := fun o' =>
    h5.write (fun k hk => by simp [Array.getElem?_setIfInBounds_ne (Ne.symm hk)]) (by simp [h5.lt]) rfl rfl rfl
  cases hfk : fk k (es.map (·.1)) (entK enc es q.1) 0 with
  | none =>
    rw [hfk] at ho
    have hp := fk_none (enc := enc) k es q.1 0 h2 hfk v
    refine WO.eff (w' := { w with heap := w.heap.setIfInBounds r (.map (entK enc (es ++ [(k, v)]) (q.1 ++ [q.2])).toArray (q.2 + 1)) }) (fun b fb => ?_) rfl rfl (h _ ?_) c f
    · have hpush : (entK enc es q.1).toArray.push ⟨enc k, v, q.2⟩ = (entK enc (es ++ [(k, v)]) (q.1 ++ [q.2])).toArray := by rw [entK_snoc h2]; apply Array.ext'; simp
      simp only [execOp, fb.ev hx, fb.ev hy, fb.ev hz, Instr.mapUpdate, Sem.run_bind, run_underlying ht, Result.andThen_ok, run_getMap hb, K.chk, ho, hpush, hset]
      rfl
    · refine St.unfocus hi ?_
      rw [hp]
      refine St.mpK_shut ?_ ?_ ?_ (hwr _)
      · rw [List.length_append, List.length_append, h2]; rfl
      · rw [List.nodup_append]; exact ⟨h3, by simp, fun a ha b hb e => by simp at hb; subst hb; subst e; exact absurd (h4 _ ha) (by omega)⟩
      · intro b hb; rcases List.mem_append.1 hb with hb | hb
        · have := h4 b hb; omega
        · simp at hb; omega
  | some p =>
    rw [hfk] at ho
    obtain ⟨j, u⟩ := p
    obtain ⟨m, hj, hm, hp⟩ := fk_at (enc := enc) k es q.1 0 h2 hfk
    have hjm : j = m := by omega
    subst hjm
    obtain ⟨bj, hent⟩ := entK_get (enc := enc) h2 hm
    have hnew : ((entK enc es q.1).toArray.modify j fun e => { e with key := enc k, val := v }) = (entK enc (es.set j (k, v)) q.1).toArray := by
      apply Array.ext'
      rw [Array.toList_modify]
      exact entK_set k v es q.1 j
    refine WO.eff (w' := { w with heap := w.heap.setIfInBounds r (.map (entK enc (es.set j (k, v)) q.1).toArray q.2) }) (fun b fb => ?_) rfl rfl (h _ ?_) c f
    · have hkey : (Instr.keyThatStays (enc k) (enc k)).run P w = .ok (enc k) w := by unfold Instr.keyThatStays; rw [if_pos (K.same k)]; rfl
      simp only [execOp, fb.ev hx, fb.ev hy, fb.ev hz, Instr.mapUpdate, Sem.run_bind, run_underlying ht, Result.andThen_ok, run_getMap hb, K.chk, ho, List.getElem?_toArray, hent, Option.map_some, Option.getD_some, hkey, hnew, hset]
      rfl
    · refine St.unfocus hi ?_
      rw [hp]
      exact St.mpK_shut (by rw [List.length_set]; exact h2) h3 h4 (hwr _)
/-- Keys that are asked one by one. -/
theorem find_asking {kt : TypeId} (heq : ∀ a b w, (Op.equal kt (enc a) (enc b)).run P w = .ok (decide (a = b)) w) (k : κ) : ∀ (ks : List κ) (es : List MapEntry) (i : Nat) (w : World), es.map (·.key) = ks.map enc → (Instr.findAsking kt (enc k) es i).run P w = .ok (fk k ks es i) w
  | [], [], i, w, _ => rfl
  | [], e :: es, i, w, h => by simp at h
  | q :: ks, [], i, w, h => by simp at h
  | q :: ks, e :: es, i, w, h => by
    simp only [List.map_cons, List.cons.injEq] at h
    simp only [Instr.findAsking, h.1, Sem.run_bind, heq, Result.andThen_ok, fk]
    by_cases hk : k = q
    · simp [hk]
    · simp only [hk, decide_false, if_false, Bool.false_eq_true]
      exact find_asking heq k ks es (i + 1) w h.2
theorem find_notNow {kt : TypeId} {d : TypeDesc} (hu : P.underlying kt = some d) (hn : ∀ a b, Instr.sameNow d (enc a) (enc b) = none) (heq : ∀ a b w, (Op.equal kt (enc a) (enc b)).run P w = .ok (decide (a = b)) w) (k : κ) (ks : List κ) (es : List MapEntry) (w : World) (h : es.map (·.key) = ks.map enc) :
    (Instr.findKey kt (enc k) es).run P w = .ok (fk k ks es 0) w := by
  cases ks with
  | nil => cases es with
    | nil => simp only [Instr.findKey, Sem.run_bind, run_underlying hu, Result.andThen_ok, Instr.findNow]; rfl
    | cons e es => simp at h
  | cons q ks => cases es with
    | nil => simp at h
    | cons e es =>
      have h' := h
      simp only [List.map_cons, List.cons.injEq] at h'
      have : Instr.findNow d (enc k) (e :: es) 0 = none := by simp only [Instr.findNow, h'.1, hn]
      simp only [Instr.findKey, Sem.run_bind, run_underlying hu, Result.andThen_ok, this]
      exact find_asking heq k (q :: ks) (e :: es) 0 w h
end
end Go.Proofs.YtogidmceomlkeaaGreatDoor.SL
