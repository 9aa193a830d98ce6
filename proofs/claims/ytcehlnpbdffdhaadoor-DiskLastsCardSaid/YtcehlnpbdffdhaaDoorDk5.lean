/- A disk as plain data: what was synced lasts. -/
import Derived.Test.YtcehlnpbdffdhaaDoorRe8
namespace Go.Proofs.YtcehlnpbdffdhaaDoor.SL
open Go.RowKit
set_option linter.unusedVariables false
set_option linter.unusedSimpArgs false
def totF (f : List (List UInt8 × Nat)) : Nat := (f.map fun x => x.1.length).sum
theorem tot_set {y : List UInt8 × Nat} : ∀ {f : List (List UInt8 × Nat)} {i : Nat}, i < f.length → totF (f.set i y) + (fileAt f i).1.length = totF f + y.1.length
  | [], i, h => by simp at h
  | x :: f, 0, _ => by
    show (y.1.length + totF f) + x.1.length = (x.1.length + totF f) + y.1.length
    omega
  | x :: f, i + 1, h => by
    have ih := tot_set (y := y) (f := f) (i := i) (by simpa using h)
    show (x.1.length + totF (f.set i y)) + (fileAt f i).1.length = (x.1.length + totF f) + y.1.length
    omega
theorem tot_snoc (f : List (List UInt8 × Nat)) (y : List UInt8 × Nat) : totF (f ++ [y]) = totF f + y.1.length := by unfold totF; simp
theorem used_tot : ∀ {l : Nm} {f : List (List UInt8 × Nat)}, (l.map (·.2)).Nodup → (∀ e ∈ l, e.2 < f.length) → usedN f l ≤ totF f
  | [], f, _, _ => Nat.zero_le _
  | e :: l, f, hn, h => by
    rw [List.map_cons, List.nodup_cons] at hn
    have h0 := h e (List.mem_cons_self ..)
    have h1 := used_set_ne (y := ([], 0)) h0 (l := l) fun d hd h3 => hn.1 (List.mem_map.2 ⟨d, hd, h3⟩)
    have h2 := used_tot (l := l) (f := f.set e.2 ([], 0)) hn.2 fun d hd => by rw [List.length_set]; exact h d (List.mem_cons_of_mem _ hd)
    have h3 := tot_set (y := ([], 0)) h0
    have h4 : ([] : List UInt8).length = 0 := rfl
    rw [usedN_cons]
    rw [h1] at h2
    show (fileAt f e.2).1.length + usedN f l ≤ totF f
    have h5 : totF (f.set e.2 ([], 0)) + (fileAt f e.2).1.length = totF f + 0 := h3
    omega
theorem tot_crash {zs : List Int} : ∀ {l : Nm} {j : Nat} {f : List (List UInt8 × Nat)}, (∀ e ∈ l, e.2 < f.length) → totF (crashF zs j l f) ≤ totF f
  | [], _, _, _ => Nat.le_refl _
  | e :: l, j, f, h => by
    have h0 := h e (List.mem_cons_self ..)
    have h1 := tot_set (y := cutF zs j (fileAt f e.2)) h0
    have h2 := tot_crash (zs := zs) (l := l) (j := j + 1) (f := f.set e.2 (cutF zs j (fileAt f e.2))) fun d hd => by rw [List.length_set]; exact h d (List.mem_cons_of_mem _ hd)
    have h3 : (cutF zs j (fileAt f e.2)).1.length ≤ (fileAt f e.2).1.length := by unfold cutF; simp only [List.length_take]; omega
    show totF (crashF zs (j + 1) l (f.set e.2 (cutF zs j (fileAt f e.2)))) ≤ totF f
    omega
def itN : List UInt8 := [105, 116]
theorem fileF_it : fileF itN = true := by decide
structure LI (D : Dk) (u : Nat) : Prop where
  room : D.room = 1048576
  left : D.left = -1
  dead : D.dead = false
  tot : totF D.f ≤ u
  noL : ∀ e ∈ D.last, ¬ e.1 = itN
  noC : ∀ c ∈ D.ch, ¬ c.tn = itN
theorem LI.mono {D : Dk} {u u' : Nat} (h : LI D u) (hu : u ≤ u') : LI D u' := ⟨h.room, h.left, h.dead, Nat.le_trans h.tot hu, h.noL, h.noC⟩
theorem LI.new : LI (newD 1048576) 0 := ⟨rfl, rfl, rfl, Nat.le_refl _, fun e he => (by cases he), fun c hc => (by cases hc)⟩
theorem applyN_no {k : List UInt8} {l : Nm} {c : Chg} (h : ∀ e ∈ l, ¬ e.1 = k) (hc : ¬ c.tn = k) : ∀ e ∈ applyN l c, ¬ e.1 = k := fun e he => by
  have hk : ∀ e ∈ keepN c l, ¬ e.1 = k := fun e he => h e (mem_of_filter he)
  unfold applyN at he
  split at he
  · exact hk e he
  · rcases mem_insN.1 he with rfl | he
    · exact hc
    · exact hk e he
theorem applyL_no {k : List UInt8} : ∀ {cs : List Chg} {l : Nm}, (∀ e ∈ l, ¬ e.1 = k) → (∀ c ∈ cs, ¬ c.tn = k) → ∀ e ∈ applyL l cs, ¬ e.1 = k
  | [], _, h, _ => h
  | c :: cs, l, h, hc => applyL_no (cs := cs) (applyN_no h (hc c (List.mem_cons_self ..))) fun d hd => hc d (List.mem_cons_of_mem _ hd)
theorem LI.nm {D : Dk} {n t u : Nat} (h : LI D u) (ho : OkD D n t) : ∀ e ∈ D.nm, ¬ e.1 = itN := by
  rw [ho.w.nm]; exact applyL_no h.noL h.noC
theorem LI.up {D : Dk} {u : Nat} (h : LI D u) (k : Dk → Dk × Int) : onWrite D k = k D := by unfold onWrite; rw [writeD_up h.left h.dead, if_pos rfl]
theorem LI.append1 {D : Dk} {n t u : Nat} {k s : List UInt8} (h : LI D u) (ho : OkD D n t) (hk : ¬ k = itN) : LI (append1 D k s).1 (u + s.length) := by
  have h0 : LI D (u + s.length) := h.mono (Nat.le_add_right _ _)
  have ht := h.tot
  unfold SL.append1
  split
  · exact h0
  · split
    · exact h0
    · split
      · rename_i i hi
        have := tot_set (y := ((fileAt D.f i).1 ++ s, (fileAt D.f i).2)) (findN_lt ho.w.good.f hi).1
        rw [List.length_append] at this
        exact ⟨h.room, h.left, h.dead, by show totF (addTo D.f i s) ≤ _; unfold addTo; omega, h.noL, h.noC⟩
      · refine ⟨h.room, h.left, h.dead, by show totF (D.f ++ [(s, 0)]) ≤ _; rw [tot_snoc]; show totF D.f + s.length ≤ _; omega, h.noL, fun c hc => ?_⟩
        rcases List.mem_append.1 hc with hc | hc
        · exact h.noC c hc
        · rw [List.mem_singleton.1 hc]; exact hk
theorem LI.change {D : Dk} {u : Nat} {c : Chg} (h : LI D u) (hc : ¬ c.tn = itN) : LI (changeD D c) u := ⟨h.room, h.left, h.dead, h.tot, h.noL, fun d hd => by
  rcases List.mem_append.1 hd with hd | hd
  · exact h.noC d hd
  · rw [List.mem_singleton.1 hd]; exact hc⟩
theorem LI.act {D : Dk} {n t u : Nat} {x : ActA} (h : LI D u) (ho : OkD D n t) (hn : ¬ x.name = itN) (ht : ¬ x.to_ = itN) (hk : ¬ x.kind = 5) : LI (actD D x).1 (u + x.text.length) := by
  have hm : ∀ {E : Dk}, LI E u → LI E (u + x.text.length) := fun h => h.mono (Nat.le_add_right _ _)
  unfold actD
  split
  · unfold appendD; rw [h.up]; exact h.append1 ho hn
  · split
    · unfold syncD; rw [h.up]; unfold sync1
      split
      · exact hm h
      · rename_i i hi
        have := tot_set (y := ((fileAt D.f i).1, (fileAt D.f i).1.length)) (findN_lt ho.w.good.f hi).1
        have ht := h.tot
        have h2 : totF (D.f.set i ((fileAt D.f i).1, (fileAt D.f i).1.length)) + (fileAt D.f i).1.length = totF D.f + (fileAt D.f i).1.length := this
        exact hm ⟨h.room, h.left, h.dead, by show totF (D.f.set i _) ≤ _; omega, h.noL, h.noC⟩
    · split
      · unfold renameD; rw [h.up]; unfold rename1
        split
        · exact hm h
        · split
          · exact hm h
          · exact hm (h.change ht)
      · split
        · unfold removeD; rw [h.up]; unfold remove1
          split
          · exact hm h
          · exact hm (h.change (by show ¬ [] = itN; decide))
        · split
          · unfold syncNamesD; rw [h.up]
            exact hm ⟨h.room, h.left, h.dead, h.tot, h.nm ho, fun c hc => (by cases hc)⟩
          · split
            · have hg : GoodN (applyL D.last (D.ch.take (keptF x.keep.l 0 D.ch.length))) D.f.length := applyL_good ho.w.last fun c hc => ho.w.ch c (List.mem_of_mem_take hc)
              have hl : ∀ e ∈ applyL D.last (D.ch.take (keptF x.keep.l 0 D.ch.length)), ¬ e.1 = itN := applyL_no h.noL fun c hc => h.noC c (List.mem_of_mem_take hc)
              exact hm ⟨h.room, rfl, rfl, Nat.le_trans (tot_crash fun e he => (hg.f e he).2) h.tot, hl, fun c hc => (by cases hc)⟩
            · exact hm h
/-! The file it. -/
structure IS (D : Dk) (m : Nat) (z : List UInt8 × Nat) (u : Nat) : Prop where
  room : D.room = 1048576
  left : D.left = -1
  dead : D.dead = false
  tot : totF D.f ≤ u
  fn : findN itN D.nm = some m
  fz : fileAt D.f m = z
theorem it_new {D : Dk} {n t u : Nat} {x : List UInt8} (h : LI D u) (ho : OkD D n t) (h64 : ¬ 64 ≤ D.nm.length) (hr : u + x.length ≤ 1048576) : ∃ D1 m, appendD D itN x = (D1, 0) ∧ OkD D1 (n + 1) (t + x.length) ∧ IS D1 m (x, 0) (u + x.length) := by
  have hno : findN itN D.nm = none := by
    cases e : findN itN D.nm with
    | none => rfl
    | some i => exact absurd rfl (h.nm ho _ (findN_mem e))
  have hut := used_tot ho.nmu fun e he => (ho.w.good.f e he).2
  have ht := h.tot
  have hrm := h.room
  have hk := ho.append (k := itN) (s := x)
  have e0 : appendD D itN x = SL.append1 D itN x := h.up _
  have e1 : SL.append1 D itN x = ({ changeD { D with f := D.f ++ [([], 0)] } ⟨[], itN, D.f.length⟩ with f := D.f ++ [(x, 0)] }, 0) := by
    unfold SL.append1
    rw [if_neg (by rw [fileF_it]; exact Bool.noConfusion), if_neg (by rintro (h2 | ⟨_, h2⟩) <;> omega), hno]
  rw [e0, e1] at hk
  rw [e0, e1]
  have hnm := new_nm ho fileF_it hno (D2 := { D with f := D.f ++ [([], 0)] }) rfl rfl
  refine ⟨_, D.f.length, rfl, hk, h.room, h.left, h.dead, ?_, hnm.2, ?_⟩
  · show totF (D.f ++ [(x, 0)]) ≤ _; rw [tot_snoc]; show totF D.f + x.length ≤ _; omega
  · show fileAt (D.f ++ [(x, 0)]) D.f.length = _
    unfold fileAt; rw [List.getD_eq_getElem?_getD, List.getElem?_append_right (Nat.le_refl _), Nat.sub_self]; rfl
theorem IS.up {D : Dk} {m u : Nat} {z : List UInt8 × Nat} (h : IS D m z u) (k : Dk → Dk × Int) : onWrite D k = k D := by unfold onWrite; rw [writeD_up h.left h.dead, if_pos rfl]
theorem it_sync {D : Dk} {n t u m s : Nat} {x : List UInt8} (h : IS D m (x, s) u) (ho : OkD D n t) : ∃ D1, syncD D itN = (D1, 0) ∧ OkD D1 n t ∧ IS D1 m (x, x.length) u := by
  have hlt := (findN_lt ho.w.good.f h.fn).1
  have hk := ho.sync (k := itN)
  have e : syncD D itN = ({ D with f := D.f.set m (x, x.length) }, 0) := by
    have e0 : syncD D itN = sync1 D itN := h.up _
    rw [e0]; unfold sync1; rw [h.fn]; simp only [h.fz]
  rw [e] at hk ⊢
  have h1 := tot_set (y := (x, x.length)) hlt
  rw [h.fz] at h1
  have ht := h.tot
  have h2 : totF (D.f.set m (x, x.length)) + x.length = totF D.f + x.length := h1
  exact ⟨_, rfl, hk, h.room, h.left, h.dead, by show totF (D.f.set m _) ≤ _; omega, h.fn, by show fileAt (D.f.set m _) m = _; rw [fileAt_set hlt, if_pos rfl]⟩
theorem it_names {D : Dk} {n t u m : Nat} {z : List UInt8 × Nat} (h : IS D m z u) (ho : OkD D n t) : ∃ D1, syncNamesD D = (D1, 0) ∧ OkD D1 n t ∧ IS D1 m z u ∧ D1.ch = [] ∧ D1.last = D1.nm := by
  have hk := ho.syncNames
  have e : syncNamesD D = syncN1 D := h.up _
  rw [e] at hk ⊢
  exact ⟨_, rfl, hk, ⟨h.room, h.left, h.dead, h.tot, h.fn, h.fz⟩, rfl, rfl⟩
theorem it_more {D : Dk} {n t u m s : Nat} {x y : List UInt8} (h : IS D m (x, s) u) (ho : OkD D n t) (h1 : D.ch = []) (h2 : D.last = D.nm) (hr : u + y.length ≤ 1048576) : ∃ D1, appendD D itN y = (D1, 0) ∧ OkD D1 (n + 1) (t + y.length) ∧ IS D1 m (x ++ y, s) (u + y.length) ∧ D1.ch = [] ∧ D1.last = D1.nm := by
  have hlt := (findN_lt ho.w.good.f h.fn).1
  have hut := used_tot ho.nmu fun e he => (ho.w.good.f e he).2
  have ht := h.tot
  have hrm := h.room
  have hk := ho.append (k := itN) (s := y)
  have e : appendD D itN y = ({ D with f := addTo D.f m y }, 0) := by
    have e0 : appendD D itN y = SL.append1 D itN y := h.up _
    rw [e0]; exact append1_found fileF_it (by omega) h.fn
  rw [e] at hk ⊢
  have h3 := tot_set (y := ((fileAt D.f m).1 ++ y, (fileAt D.f m).2)) hlt
  rw [List.length_append] at h3
  exact ⟨_, rfl, hk, ⟨h.room, h.left, h.dead, by show totF (addTo D.f m y) ≤ _; unfold addTo; omega, h.fn, by show fileAt (addTo D.f m y) m = _; unfold addTo; rw [fileAt_set hlt, if_pos rfl, h.fz]⟩, h1, h2⟩
theorem crash_out {zs : List Int} {m : Nat} : ∀ {l : Nm} {j : Nat} {f : List (List UInt8 × Nat)}, (∀ e ∈ l, e.2 < f.length) → (∀ e ∈ l, ¬ e.2 = m) → fileAt (crashF zs j l f) m = fileAt f m
  | [], _, _, _, _ => rfl
  | e :: l, j, f, h, hm => by
    have ih := crash_out (zs := zs) (m := m) (l := l) (j := j + 1) (f := f.set e.2 (cutF zs j (fileAt f e.2))) (fun d hd => by rw [List.length_set]; exact h d (List.mem_cons_of_mem _ hd)) fun d hd => hm d (List.mem_cons_of_mem _ hd)
    show fileAt (crashF zs (j + 1) l (f.set e.2 _)) m = _
    rw [ih, fileAt_set (h e (List.mem_cons_self ..)), if_neg (hm e (List.mem_cons_self ..))]
theorem crash_at {zs : List Int} {m : Nat} {k : List UInt8} : ∀ {l : Nm} {j : Nat} {f : List (List UInt8 × Nat)}, (l.map (·.2)).Nodup → (∀ e ∈ l, e.2 < f.length) → (k, m) ∈ l → ∃ i, fileAt (crashF zs j l f) m = cutF zs i (fileAt f m)
  | e :: l, j, f, hn, h, hm => by
    rw [List.map_cons, List.nodup_cons] at hn
    have h0 := h e (List.mem_cons_self ..)
    have hl : ∀ d ∈ l, d.2 < (f.set e.2 (cutF zs j (fileAt f e.2))).length := fun d hd => by rw [List.length_set]; exact h d (List.mem_cons_of_mem _ hd)
    by_cases he : e.2 = m
    · refine ⟨j, ?_⟩
      show fileAt (crashF zs (j + 1) l (f.set e.2 _)) m = _
      rw [crash_out hl fun d hd h3 => hn.1 (List.mem_map.2 ⟨d, hd, by rw [h3, he]⟩), fileAt_set h0, if_pos he, he]
    · have hm2 : (k, m) ∈ l := by
        rcases List.mem_cons.1 hm with h3 | h3
        · exact absurd (by rw [← h3]) he
        · exact h3
      obtain ⟨i, hi⟩ := crash_at (zs := zs) (j := j + 1) (f := f.set e.2 (cutF zs j (fileAt f e.2))) hn.2 hl hm2
      refine ⟨i, ?_⟩
      show fileAt (crashF zs (j + 1) l (f.set e.2 _)) m = _
      rw [hi, fileAt_set h0, if_neg he]
theorem it_read {D : Dk} {n t u m : Nat} {x y : List UInt8} {zs : List Int} (h : IS D m (x ++ y, x.length) u) (ho : OkD D n t) (h1 : D.ch = []) (h2 : D.last = D.nm) : ∃ q, q ≤ y.length ∧ readD (crashD D zs) itN = ((x ++ y).take (x.length + q), 0) := by
  have hl : applyL D.last (D.ch.take (keptF zs 0 D.ch.length)) = D.nm := by rw [h1, h2, List.take_nil]; rfl
  rw [crash_read hl]
  obtain ⟨i, hi⟩ := crash_at (zs := zs) (j := 1) ho.nmu (fun e he => (ho.w.good.f e he).2) (findN_mem h.fn)
  rw [h.fz] at hi
  have hq := keptF_le zs i ((x ++ y).length - x.length)
  have hy : (x ++ y).length - x.length = y.length := by rw [List.length_append]; omega
  rw [hy] at hq
  refine ⟨keptF zs i y.length, hq, ?_⟩
  unfold readD
  rw [if_neg Bool.noConfusion]
  show (match findN itN D.nm with | none => _ | some i => _) = _
  rw [h.fn]
  show ((fileAt (crashF zs 1 D.nm D.f) m).1, (0 : Int)) = _
  rw [hi]
  unfold cutF
  simp only [hy]
end Go.Proofs.YtcehlnpbdffdhaaDoor.SL
