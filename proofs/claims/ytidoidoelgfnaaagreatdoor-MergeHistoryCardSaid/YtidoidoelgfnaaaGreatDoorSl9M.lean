import Derived.Test.YtidoidoelgfnaaaGreatDoorSl8
import Derived.Laws.RangeString
import Derived.Laws.IdiomRangeMap
/- Rules: a range over a string. -/
namespace Go.Proofs.YtidoidoelgfnaaaGreatDoor.SL
open Go.RowKit
set_option linter.unusedVariables false
section
variable {P : Program} {n : Nat} {D : List Deferred} {T : Tm} {ty : TypeId} {pos : String} {aft : Array Edge} {ops : Array Oper} {rest : List Oper} {Q : Exit → Act → World → Prop} {B w : World} {L : List HP}
/-- A range over a string, at a place. -/
def itS (r : Nat) (s : List UInt8) (p : Nat) : HP := .blk r (.stringIter (bs s) p)
theorem WO.rangeS {t d : Nat} {x : Operand} {s : List UInt8} (hS : St B L w) (ht : P.underlying t = some .string) (hx : ev T x = some (str s)) (hn : Nat.blt d n = true)
    (h : ∀ r w', St B (itS r s 0 :: L) w' → WO P n D ops Q rest ((d, .pointer (some ⟨r, 0, none⟩)) :: T) w') : WO P n D ops Q (⟨some d, .range t x, ty, pos, aft, none⟩ :: rest) T w :=
  WO.val (v := .pointer (some ⟨w.heap.size, 0, none⟩)) (w' := w.iter (bs s) 0) (fun c fc => by
    simp only [execOp, fc.ev hx, Sem.run_bind, run_range_string w t (bs s) ht, Result.andThen_ok]; rfl) rfl rfl hn
    (h _ _ (hS.new (.stringIter (bs s) 0) rfl rfl rfl rfl))
theorem decode_big {s : ByteArray} {i : Nat} (h : ¬ (s.get! (i + 0)).toNat < 128) : 128 ≤ (Utf8.decode s i).1 := by
  unfold Utf8.decode
  simp only
  rw [if_neg h]
  split
  · split
    · assumption
    · show 128 ≤ Utf8.runeError; decide
  · split
    · split
      · rename_i hc; simp only [Bool.and_eq_true, decide_eq_true_eq, ge_iff_le] at hc; omega
      · show 128 ≤ Utf8.runeError; decide
    · split
      · split
        · rename_i hc; simp only [Bool.and_eq_true, decide_eq_true_eq, ge_iff_le] at hc; omega
        · show 128 ≤ Utf8.runeError; decide
      · show 128 ≤ Utf8.runeError; decide
theorem bs_get! {s : List UInt8} {p : Nat} {b : UInt8} (h : s[p]? = some b) : (bs s).get! p = b := by
  have hp := (List.getElem?_eq_some_iff.1 h).1
  show (⟨s⟩ : Array UInt8)[p]! = b
  rw [getElem!_pos _ p (by simpa using hp)]
  have := (List.getElem?_eq_some_iff.1 h).2
  simpa using this
theorem WO.nextS {d : Nat} {x : Operand} {r p : Nat} {s : List UInt8} (i : Nat) (hS : St B L w) (hi : nth L i = some (itS r s p)) (hx : ev T x = some (.pointer (some ⟨r, 0, none⟩))) (hn : Nat.blt d n = true)
    (hend : s.length ≤ p → WO P n D ops Q rest ((d, .tuple #[.bool false]) :: T) w)
    (hascii : ∀ b : UInt8, s[p]? = some b → b.toNat < 128 → ∀ w', St B (put L i (itS r s (p + 1))) w' → WO P n D ops Q rest ((d, .tuple #[.bool true, .int .i64 (p : Int), .int .i32 (b.toNat : Int)]) :: T) w')
    (hbig : ∀ (b : UInt8) (c k : Nat), s[p]? = some b → ¬ b.toNat < 128 → 128 ≤ c → ∀ w', St B (put L i (itS r s (p + k))) w' → WO P n D ops Q rest ((d, .tuple #[.bool true, .int .i64 (p : Int), .int .i32 (c : Int)]) :: T) w') :
    WO P n D ops Q (⟨some d, .next x true, ty, pos, aft, none⟩ :: rest) T w := by
  have hF := hS.focus i hi
  have hb : w.heap[r]? = some (.stringIter (bs s) p) := St.at hF
  have hset : ∀ k, St B (itS r s k :: del L i) { w with heap := w.heap.setIfInBounds r (.stringIter (bs s) k) } := fun k =>
    St.write hF (fun j hj => by simp [Array.getElem?_setIfInBounds_ne (Ne.symm hj)]) (by simp [St.lt hF]) rfl rfl rfl
  rcases Nat.lt_or_ge p s.length with hp | hp
  · obtain ⟨b, hbb⟩ : ∃ b, s[p]? = some b := ⟨_, List.getElem?_eq_getElem hp⟩
    have hg := bs_get! hbb
    have hrun : (Instr.next (.pointer (some ⟨r, 0, none⟩)) true ty).run P w = .ok (.tuple #[.bool true, goInt p, .int .i32 (Utf8.decode (bs s) p).1]) { w with heap := w.heap.setIfInBounds r (.stringIter (bs s) (p + (Utf8.decode (bs s) p).2)) } := by
      simp [Instr.next, getObj, setObj, Sem.run, hb, Result.andThen, show p < (bs s).size from hp]
    by_cases ha : b.toNat < 128
    · have hd : Utf8.decode (bs s) p = (b.toNat, 1) := by
        simp only [Utf8.decode, Nat.add_zero, hg, if_pos ha]
      refine WO.val (v := .tuple #[.bool true, .int .i64 (p : Int), .int .i32 (b.toNat : Int)]) (w' := { w with heap := w.heap.setIfInBounds r (.stringIter (bs s) (p + 1)) }) (fun c fc => ?_) rfl rfl hn (hascii b hbb ha _ (St.unfocus hi (hset _)))
      rw [hd] at hrun
      simp only [execOp, fc.ev hx, Sem.run_bind, hrun, Result.andThen_ok]; rfl
    · refine WO.val (v := .tuple #[.bool true, .int .i64 (p : Int), .int .i32 ((Utf8.decode (bs s) p).1 : Int)]) (w' := { w with heap := w.heap.setIfInBounds r (.stringIter (bs s) (p + (Utf8.decode (bs s) p).2)) }) (fun c fc => ?_) rfl rfl hn (hbig b _ _ hbb ha (decode_big (by rw [Nat.add_zero, hg]; exact ha)) _ (St.unfocus hi (hset _)))
      simp only [execOp, fc.ev hx, Sem.run_bind, hrun, Result.andThen_ok]; rfl
  · refine WO.val (v := .tuple #[.bool false]) (w' := w) (fun c fc => ?_) rfl rfl hn (hend hp)
    have hrun : (Instr.next (.pointer (some ⟨r, 0, none⟩)) true ty).run P w = .ok (.tuple #[.bool false]) w := by
      simp [Instr.next, getObj, Sem.run, hb, show ¬ p < (bs s).size from Nat.not_lt.2 hp]
    simp only [execOp, fc.ev hx, Sem.run_bind, hrun, Result.andThen_ok]; rfl
end
end Go.Proofs.YtidoidoelgfnaaaGreatDoor.SL

/-! Results that lie in cells. -/
namespace Go.Proofs.YtidoidoelgfnaaaGreatDoor.SL
open Go.RowKit
set_option linter.unusedVariables false
variable {P : Program} {n : Nat} {D : List Deferred} {T : Tm} {w : World}
/-- What a result is: a temporary's value, or what is loaded of its place. -/
inductive OutC (P : Program) (T : Tm) (w : World) : ResultVar → Value → Prop
  | tmp {t : Tmp} {v : Value} (h : look T t = some v) : OutC P T w (.tmp t) v
  | cell {a : Tmp} {t : TypeId} {p : Addr} {v : Value} (h : look T a = some (.pointer (some p))) (hl : (loadVar t p).run P w = .ok v w) : OutC P T w (.cell a t) v
inductive OutsC (P : Program) (T : Tm) (w : World) : List ResultVar → List Value → Prop
  | nil : OutsC P T w [] []
  | cons {r : ResultVar} {v : Value} {rs : List ResultVar} {vs : List Value} (h : OutC P T w r v) (t : OutsC P T w rs vs) : OutsC P T w (r :: rs) (v :: vs)
theorem loadVar_agg {t : TypeId} {p : Addr} {k : Nat} {vs : List Value} (ha : aggB P t = some true) (hs : sizeB P t = some k) (hk : vs.length = k) (hc : ∀ j, j < vs.length → w.cell? (p.add j) = vs[j]?) : (loadVar t p).run P w = .ok (.agg vs.toArray) w := by
  simp [loadVar, run_isAgg ha, run_sizeOf hs, run_loadCells hk hc]
theorem loadVar_one {t : TypeId} {p : Addr} {v : Value} (ha : aggB P t = some false) (hc : w.cell? p = some v) : (loadVar t p).run P w = .ok v w := by
  simp [loadVar, run_isAgg ha, load, Sem.run, hc]
theorem outC_run {a : Act} (f : Fits n D T a) {r : ResultVar} {v : Value} (h : OutC P T w r v) : (resOf a.tmps r).run P w = .ok v w := by
  cases h with
  | tmp h => rename_i t; have hv : a.tmps.getD t undef = v := by simp [f.out t v h]
             simp [resOf, hv]
  | cell h hl => rename_i b t p; have hv : a.tmps.getD b undef = .pointer (some p) := by simp [f.out b _ h]
                 simp [resOf, hv, asAddr, hl]
theorem outsC_map {a : Act} (f : Fits n D T a) {l : List ResultVar} {vs : List Value} (h : OutsC P T w l vs) : (l.mapM (resOf a.tmps)).run P w = .ok vs w := by
  induction h with
  | nil => rfl
  | cons h t ih => simp [List.mapM_cons, outC_run f h, ih]
theorem resultsC_ok {fn : Func} {a : Act} (f : Fits n D T a) {vs : List Value} {l : List ResultVar} (hr : fn.results = l.toArray) (h : OutsC P T w l vs) : (results fn a.tmps).run P w = .ok (one vs) w := by
  have := outsC_map f h
  rw [results_eq, hr, List.mapM_toArray]
  simp [this, one]
  split
  · rename_i h1
    obtain ⟨v, rfl⟩ := List.length_eq_one_iff.1 h1
    rfl
  · rename_i h1
    split
    · exact absurd rfl h1
    · rfl
theorem NX.doneC {fn : Func} {Φ : Value → World → Prop} {l : List ResultVar} {vs : List Value} (hr : fn.results = l.toArray) (ht : OutsC P T w l vs) (h : Φ (one vs) w) : NX n [] (bodyPost P fn (SL.ret Φ)) .ret T w :=
  fun a f => ⟨f.defs, _, resultsC_ok f hr ht, _, rfl, h⟩
end Go.Proofs.YtidoidoelgfnaaaGreatDoor.SL

/- Rules: worlds that grew; maps from strings: deletes, ranges, copies. -/
namespace Go.Proofs.YtidoidoelgfnaaaGreatDoor.SL
open Go.RowKit
set_option linter.unusedVariables false
set_option linter.unusedSimpArgs false
section
variable {P : Program} {n : Nat} {D : List Deferred} {T : Tm} {ty : TypeId} {pos : String} {aft : Array Edge} {ops : Array Oper} {rest : List Oper} {Q : Exit → Act → World → Prop} {B w : World} {L : List HP}
/-! A range over a map. -/
def leftL (es : List (List UInt8 × Value)) (bl : List Nat) (seen : Array Nat) : List (List UInt8 × Value) := ((es.zip bl).filter fun p => !seen.contains p.2).map (·.1)
/-- A map and a range over it: what is left, and what came last. -/
def itM (r it : Nat) (es rest : List (List UInt8 × Value)) (cur : Option (List UInt8 × Value)) : HP :=
  .ex fun x : (List Nat × Nat) × Array Nat => .sep (.pure (x.1.1.length = es.length ∧ x.1.1.Nodup ∧ (∀ b ∈ x.1.1, b < x.1.2) ∧ rest = leftL es x.1.1 x.2 ∧ (∀ c, cur = some c → ∃ b, (c, b) ∈ es.zip x.1.1 ∧ x.2.back? = some b)))
    (.sep (.blk it (.mapIter (some r) x.1.2 x.2 x.1.2)) (.blk r (.map (entL es x.1.1).toArray x.1.2)))
theorem St.itM_open {r it : Nat} {es rst : List (List UInt8 × Value)} {cur : Option (List UInt8 × Value)} (h : St B (itM r it es rst cur :: L) w) : ∃ (bl : List Nat) (c : Nat) (seen : Array Nat),
    (bl.length = es.length ∧ bl.Nodup ∧ (∀ b ∈ bl, b < c) ∧ rst = leftL es bl seen ∧ (∀ q, cur = some q → ∃ b, (q, b) ∈ es.zip bl ∧ seen.back? = some b)) ∧ St B (.blk it (.mapIter (some r) c seen c) :: .blk r (.map (entL es bl).toArray c) :: L) w := by
  obtain ⟨x, h1⟩ := h.ex
  obtain ⟨h2, h3⟩ := h1.sep.pure
  exact ⟨x.1.1, x.1.2, x.2, h2, h3.sep⟩
theorem St.itM_shut {r it c : Nat} {es rst : List (List UInt8 × Value)} {cur : Option (List UInt8 × Value)} {bl : List Nat} {seen : Array Nat}
    (h1 : bl.length = es.length) (h2 : bl.Nodup) (h3 : ∀ b ∈ bl, b < c) (h4 : rst = leftL es bl seen) (h5 : ∀ q, cur = some q → ∃ b, (q, b) ∈ es.zip bl ∧ seen.back? = some b)
    (h : St B (.blk it (.mapIter (some r) c seen c) :: .blk r (.map (entL es bl).toArray c) :: L) w) : St B (itM r it es rst cur :: L) w :=
  (St.join (St.addPure ⟨h1, h2, h3, h4, h5⟩ (St.join h))).give ((bl, c), seen)
theorem St.itM_end {r it : Nat} {es rst : List (List UInt8 × Value)} {cur : Option (List UInt8 × Value)} (h : St B (itM r it es rst cur :: L) w) : St B (mpS r es :: L) w := by
  obtain ⟨bl, c, seen, ⟨h1, h2, h3, _⟩, h4⟩ := h.itM_open
  exact St.mpS_shut h1 h2 h3 h4.drop
theorem leftL_none (es : List (List UInt8 × Value)) (bl : List Nat) (h : bl.length = es.length) : leftL es bl #[] = es := by
  unfold leftL
  rw [List.filter_eq_self.2 (by simp), ← List.unzip_fst, List.unzip_zip h.symm]
theorem WO.rangeM {t k e d : TypeId} {x : Operand} {r : Nat} {es : List (List UInt8 × Value)} (i : Nat) (hS : St B L w) (hi : nth L i = some (mpS r es)) (ht : P.underlying t = some (.map k e)) (hx : ev T x = some (.map (some r))) (hn : Nat.blt d n = true)
    (h : ∀ it w', St B (put L i (itM r it es es none)) w' → WO P n D ops Q rest ((d, .pointer (some ⟨it, 0, none⟩)) :: T) w') : WO P n D ops Q (⟨some d, .range t x, ty, pos, aft, none⟩ :: rest) T w := by
  obtain ⟨q, h1⟩ := (hS.focus i hi).ex
  obtain ⟨⟨h2, h3, h4⟩, h5⟩ := h1.sep.pure
  have hb := h5.at
  refine WO.val (v := .pointer (some ⟨w.heap.size, 0, none⟩)) (w' := w.alloc (.mapIter (some r) q.2 #[] q.2)) (fun c fc => by
    simp only [execOp, fc.ev hx, Sem.run_bind, run_range_map w t k e r _ _ ht hb, Result.andThen_ok]; rfl) rfl rfl hn (h _ _ (St.unfocus hi ?_))
  exact St.itM_shut h2 h3 h4 (leftL_none es q.1 h2).symm (fun _ e => by cases e) (h5.new (.mapIter (some r) q.2 #[] q.2) rfl rfl rfl rfl)
theorem entL_born {es : List (List UInt8 × Value)} {bl : List Nat} {c : Nat} (h : ∀ b ∈ bl, b < c) : ∀ x ∈ entL es bl, x.born < c := fun x hx => by
  unfold entL at hx
  obtain ⟨p, hp, rfl⟩ := List.mem_map.1 hx
  exact h _ (List.of_mem_zip hp).2
theorem entL_left (es : List (List UInt8 × Value)) (bl : List Nat) (seen : Array Nat) : (entL es bl).filter (fun e => !seen.contains e.born) = ((es.zip bl).filter fun p => !seen.contains p.2).map fun p => (⟨str p.1.1, p.1.2, p.2⟩ : MapEntry) := by
  unfold entL; rw [List.filter_map]; rfl
theorem mem_of_filter {α : Type} {p : α → Bool} {l : List α} {x : α} (h : x ∈ l.filter p) : x ∈ l := (List.mem_filter.1 h).1
theorem zip_snd_nodup {es : List (List UInt8 × Value)} {bl : List Nat} (h : bl.length = es.length) (hn : bl.Nodup) : ((es.zip bl).map (·.2)).Nodup := by
  rw [← List.unzip_snd, List.unzip_zip h.symm]; exact hn
theorem filter_one {α : Type} : ∀ {pre post : List (α × Nat)} {c : α} {b : Nat}, ((pre ++ (c, b) :: post).map (·.2)).Nodup → (pre ++ (c, b) :: post).filter (fun p => !(p.2 == b)) = pre ++ post := fun {pre post c b} h => by
  rw [List.map_append, List.nodup_append] at h
  obtain ⟨h1, h2, h3⟩ := h
  rw [List.map_cons, List.nodup_cons] at h2
  rw [List.filter_append, List.filter_cons, if_neg (by simp), List.filter_eq_self.2, List.filter_eq_self.2]
  · intro p hp
    have : p.2 ≠ b := fun e => h2.1 (List.mem_map.2 ⟨p, hp, e⟩)
    simp [this]
  · intro p hp
    have : p.2 ≠ b := fun e => h3 _ (List.mem_map.2 ⟨p, hp, rfl⟩) _ (List.mem_map.2 ⟨(c, b), List.mem_cons_self .., rfl⟩) e
    simp [this]
theorem leftL_push {es : List (List UInt8 × Value)} {bl : List Nat} {seen : Array Nat} {b : Nat} {pre post : List ((List UInt8 × Value) × Nat)} {c : List UInt8 × Value} (hl : bl.length = es.length) (hn : bl.Nodup)
    (h : (es.zip bl).filter (fun p => !seen.contains p.2) = pre ++ (c, b) :: post) : leftL es bl (seen.push b) = pre.map (·.1) ++ post.map (·.1) := by
  have hnd : ((pre ++ (c, b) :: post).map (·.2)).Nodup := by
    rw [← h]; exact List.Nodup.sublist (List.Sublist.map _ List.filter_sublist) (zip_snd_nodup hl hn)
  unfold leftL
  have : (es.zip bl).filter (fun p => !(seen.push b).contains p.2) = ((es.zip bl).filter (fun p => !seen.contains p.2)).filter (fun p => !(p.2 == b)) := by
    rw [List.filter_filter]
    apply List.filter_congr
    intro p _
    rw [Array.contains_push]
    by_cases e : p.2 = b
    · simp [e]
    · have e' : ¬ b = p.2 := fun q => e q.symm
      simp [e, e', Bool.and_comm]
  rw [this, h, filter_one hnd, List.map_append]
theorem St.blk_same {w' : World} (h : St B L w) (e1 : w'.heap = w.heap) (e2 : w'.os = w.os) (e3 : w'.tape = w.tape) (e4 : w'.output = w.output) (e5 : w.drawn ≤ w'.drawn) : St B L w' := by
  obtain ⟨h1, h2, h3, Z, p, d, hB, hZ, hp, s⟩ := h
  have e : heapOf w' = heapOf w := by funext g; show w'.heap[g]? = w.heap[g]?; rw [e1]
  exact ⟨e2.trans h1, e3.trans h2, ⟨e4.trans h3.1, Nat.le_trans h3.2 e5⟩, Z, p, d, hB, e ▸ hZ, e ▸ hp, s⟩
/-- A step of a range over a map. -/
theorem WO.nextM {d : Nat} {x : Operand} {r it : Nat} {es rst : List (List UInt8 × Value)} {cur : Option (List UInt8 × Value)} (i : Nat) (hS : St B L w) (hi : nth L i = some (itM r it es rst cur)) (hx : ev T x = some (.pointer (some ⟨it, 0, none⟩))) (hn : Nat.blt d n = true)
    (hend : rst = [] → WO P n D ops Q rest ((d, .tuple #[.bool false]) :: T) w)
    (hstep : ∀ (pre : List (List UInt8 × Value)) (k : List UInt8) (v : Value) (post : List (List UInt8 × Value)), rst = pre ++ (k, v) :: post → ∀ w', St B (put L i (itM r it es (pre ++ post) (some (k, v)))) w' → WO P n D ops Q rest ((d, .tuple #[.bool true, str k, v]) :: T) w') :
    WO P n D ops Q (⟨some d, .next x false, ty, pos, aft, none⟩ :: rest) T w := by
  obtain ⟨bl, c, seen, ⟨h1, h2, h3, h4, _⟩, h5⟩ := (hS.focus i hi).itM_open
  have hit : w.heap[it]? = some (.mapIter (some r) c seen c) := h5.at
  have hmp : w.heap[r]? = some (.map (entL es bl).toArray c) := h5.drop.at
  have htest := next_test_false seen (entL es bl).toArray c c (fun x hx => entL_born h3 x (by simpa using hx)) (Nat.le_refl _)
  have hleft : (entL es bl).toArray.filter (fun e => !seen.contains e.born) = (((es.zip bl).filter fun p => !seen.contains p.2).map fun p => (⟨str p.1.1, p.1.2, p.2⟩ : MapEntry)).toArray := by
    rw [List.filter_toArray, entL_left]
  have hrst : rst = ((es.zip bl).filter fun p => !seen.contains p.2).map (·.1) := h4
  generalize hFL : (es.zip bl).filter (fun p => !seen.contains p.2) = FL at hleft hrst
  have hborn : ∀ p ∈ FL, p.2 < c := fun p hp => by
    rw [← hFL] at hp
    exact h3 _ (List.of_mem_zip (mem_of_filter hp)).2
  have e1 : ((FL.map fun p => (⟨str p.1.1, p.1.2, p.2⟩ : MapEntry)).toArray).filter (fun x => decide (x.born < c)) = (FL.map fun p => (⟨str p.1.1, p.1.2, p.2⟩ : MapEntry)).toArray := by
    rw [List.filter_toArray, List.filter_eq_self.2]
    intro y hy
    obtain ⟨p, hp, rfl⟩ := List.mem_map.1 hy
    simpa using hborn p hp
  have e2 : ((FL.map fun p => (⟨str p.1.1, p.1.2, p.2⟩ : MapEntry)).toArray).filter (fun x => decide (x.born ≥ c)) = #[] := by
    rw [List.filter_toArray, List.filter_eq_nil_iff.2]
    intro y hy
    obtain ⟨p, hp, rfl⟩ := List.mem_map.1 hy
    have := hborn p hp
    simp; omega
  cases hF : FL with
  | nil =>
    have hend' := hend (by rw [hrst, hF]; rfl)
    refine WO.val (v := .tuple #[.bool false]) (w' := w) (fun a fa => ?_) rfl rfl hn hend'
    have hrun : (Instr.next (.pointer (some ⟨it, 0, none⟩)) false ty).run P w = .ok (.tuple #[.bool false]) w := by
      simp only [Instr.next, getObj, Sem.run_bind, Sem.run, hit, hmp, Result.andThen, htest, Bool.false_eq_true, if_false, hleft, hF, List.map_nil]
      simp [choose, Sem.run, Question.forced]
    simp only [execOp, fa.ev hx, Sem.run_bind, hrun, Result.andThen_ok]; rfl
  | cons p0 FL0 =>
    have hne : (FL.map fun p => (⟨str p.1.1, p.1.2, p.2⟩ : MapEntry)).toArray.isEmpty = false := by rw [hF]; rfl
    have hpos : 0 < FL.length := by rw [hF]; simp
    have hch : ∃ (j : Nat) (w1 : World), j < FL.length ∧ (w1.heap = w.heap ∧ w1.os = w.os ∧ w1.tape = w.tape ∧ w1.output = w.output ∧ w.drawn ≤ w1.drawn) ∧ (choose (Question.mapNext FL.length)).run P w = .ok j w1 := by
      by_cases hf : FL.length ≤ 1
      · exact ⟨0, w, by omega, ⟨rfl, rfl, rfl, rfl, Nat.le_refl _⟩, by simp [choose, Sem.run, Question.forced, hf]⟩
      · exact ⟨_, w.drew, Nat.mod_lt _ (by omega), ⟨rfl, rfl, rfl, rfl, Nat.le_succ _⟩, by
          simp only [choose, Sem.run, Question.forced, decide_eq_true_eq, hf, if_false, Question.cut]
          rfl⟩
    obtain ⟨j, w1, hj, ⟨a1, a2, a3, a4, a5⟩, hrun⟩ := hch
    obtain ⟨pre, ⟨⟨k, v⟩, b⟩, post, hsplit, hlen⟩ : ∃ pre p post, FL = pre ++ p :: post ∧ pre.length = j :=
      ⟨FL.take j, FL[j], FL.drop (j + 1), by rw [List.getElem_cons_drop, List.take_append_drop], by rw [List.length_take]; omega⟩
    have hget : FL[j]? = some ((k, v), b) := by rw [hsplit, ← hlen, List.getElem?_append_right (Nat.le_refl _), Nat.sub_self]; rfl
    have h6 := h5.blk_same a1 a2 a3 a4 a5
    have hrunA : (choose (Question.mapNext (FL.map fun p => (⟨str p.1.1, p.1.2, p.2⟩ : MapEntry)).toArray.size)).run P w = .ok j w1 := by
      rw [List.size_toArray, List.length_map]; exact hrun
    refine WO.val (v := .tuple #[.bool true, str k, v]) (w' := { w1 with heap := w1.heap.setIfInBounds it (.mapIter (some r) c (seen.push b) c) }) (fun a fa => ?_) rfl rfl hn (hstep (pre.map (·.1)) k v (post.map (·.1)) (by rw [hrst, hsplit]; simp) _ (St.unfocus hi ?_))
    · have hset : (setObj it (.mapIter (some r) c (seen.push b) c)).run P w1 = .ok () { w1 with heap := w1.heap.setIfInBounds it (.mapIter (some r) c (seen.push b) c) } := by
        simp [setObj, Sem.run, a1, hit]
      have hrun' : (Instr.next (.pointer (some ⟨it, 0, none⟩)) false ty).run P w = .ok (.tuple #[.bool true, str k, v]) { w1 with heap := w1.heap.setIfInBounds it (.mapIter (some r) c (seen.push b) c) } := by
        simp only [Instr.next, getObj, Sem.run_bind, Sem.run, hit, hmp, Result.andThen, htest, Bool.false_eq_true, if_false, hleft, e1, e2, hne, Array.append_empty, Array.empty_append, Array.size_map, hrunA]
        simp only [Array.getElem?_map, List.getElem?_toArray, List.getElem?_map, hget, Option.map_some, Sem.run_bind, hset, Result.andThen]
        rfl
      simp only [execOp, fa.ev hx, Sem.run_bind, hrun', Result.andThen_ok]; rfl
    · refine St.itM_shut (seen := seen.push b) h1 h2 h3 (leftL_push h1 h2 (hFL.trans hsplit)).symm (fun q e => ?_) ?_
      · cases e
        refine ⟨b, ?_, by simp⟩
        have : ((k, v), b) ∈ FL := by rw [hsplit]; simp
        rw [← hFL] at this
        exact mem_of_filter this
      · exact h6.write (fun g hg => by simp [Array.getElem?_setIfInBounds_ne (Ne.symm hg)]) (by simp [h6.lt]) rfl rfl rfl
/-- What came last, read anew. -/
theorem run_entryM {d : Nat} {x : Operand} {r it : Nat} {es rst : List (List UInt8 × Value)} {k : List UInt8} {v : Value} {dst : Option Nat} (i : Nat) (hS : St B L w) (hi : nth L i = some (itM r it es rst (some (k, v)))) (hx : ev T x = some (.pointer (some ⟨it, 0, none⟩))) :
    Run P n D T w ⟨dst, .entry x, ty, pos, aft, none⟩ (.tuple #[str k, v]) w := fun a fa => by
  obtain ⟨bl, c, seen, ⟨h1, h2, h3, h4, h5⟩, h6⟩ := (hS.focus i hi).itM_open
  have hit : w.heap[it]? = some (.mapIter (some r) c seen c) := h6.at
  have hmp : w.heap[r]? = some (.map (entL es bl).toArray c) := h6.drop.at
  obtain ⟨b, hm, hbk⟩ := h5 _ rfl
  have hmem : (⟨str k, v, b⟩ : MapEntry) ∈ entL es bl := List.mem_map.2 ⟨((k, v), b), hm, rfl⟩
  have hnd : ((entL es bl).map (·.born)).Nodup := by
    have : (entL es bl).map (·.born) = (es.zip bl).map (·.2) := by unfold entL; rw [List.map_map]; rfl
    rw [this]; exact zip_snd_nodup h1 h2
  have hf : (entL es bl).toArray.find? (·.born == b) = some ⟨str k, v, b⟩ := by rw [← Array.find?_toList]; exact find_born ⟨str k, v, b⟩ _ hnd hmem
  have hrun : (Instr.entry (.pointer (some ⟨it, 0, none⟩))).run P w = .ok (.tuple #[str k, v]) w := by
    simp only [Instr.entry, getObj, Sem.run_bind, Sem.run, hit, hmp, Result.andThen, hbk, bne_self_eq_false, Bool.false_eq_true, if_false, hf]
    rfl
  simp only [execOp, fa.ev hx, Sem.run_bind, hrun, Result.andThen_ok]; rfl
/-! Deletes. -/
end
end Go.Proofs.YtidoidoelgfnaaaGreatDoor.SL
