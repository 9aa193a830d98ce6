import Derived.Test.YtiggkfaonnnjoaaGreatDoorDrM
/- A disk as plain data: what always holds of it, whatever is done. -/
namespace Go.Proofs.YtiggkfaonnnjoaaGreatDoor.SL
open Go.RowKit
set_option linter.unusedVariables false
set_option linter.unusedSimpArgs false
structure OkD (D : Dk) (n t : Nat) : Prop where
  w : WFD D
  b : Bnd D n t
  u : ∀ k, ((applyL D.last (D.ch.take k)).map (·.2)).Nodup
theorem OkD.mono {D : Dk} {n t n' t' : Nat} (h : OkD D n t) (hn : n ≤ n') (ht : t ≤ t') : OkD D n' t' := ⟨h.w, h.b.mono hn ht, h.u⟩
theorem OkD.nmu {D : Dk} {n t : Nat} (h : OkD D n t) : (D.nm.map (·.2)).Nodup := by
  have := h.u D.ch.length; rw [List.take_length] at this; rw [h.w.nm]; exact this
theorem OkD.new {room : Int} (h : -9223372036854775808 ≤ room ∧ room ≤ 9223372036854775807) : OkD (newD room) 0 0 := by
  have e : ∀ k, applyL (newD room).last ((newD room).ch.take k) = [] := fun k => by show applyL [] (List.take k []) = []; rw [List.take_nil]; rfl
  refine ⟨⟨rfl, fun k => by rw [e]; exact Nat.zero_le _, ⟨List.Pairwise.nil, fun e he => (by cases he)⟩, fun c hc => (by cases hc), fun x hx => (by cases hx), Int.le_refl _, fun _ => rfl, h, by show (-1 : Int) ≤ _; omega⟩, ⟨Nat.zero_le _, Nat.zero_le _, fun x hx => (by cases hx)⟩, fun k => by rw [e]; exact List.nodup_nil⟩
theorem OkD.power {D : Dk} {n t : Nat} {d : Bool} {l : Int} (h : OkD D n t) (h1 : -1 ≤ l) (h2 : l ≤ 9223372036854775807) : OkD { D with dead := d, left := l } n t :=
  ⟨⟨h.w.nm, h.w.few, h.w.last, h.w.ch, h.w.lasts, h1, h.w.neg, h.w.rng, h2⟩, ⟨h.b.ch, h.b.f, h.b.t⟩, h.u⟩
theorem OkD.write {D : Dk} {n t : Nat} (h : OkD D n t) : OkD (writeD D).1 n t := by
  have h1 := h.w.left
  have h2 := h.w.lrng
  unfold writeD
  split
  · exact h.power (d := true) h1 h2
  · split
    · exact h
    · exact h.power (d := D.dead) (by split <;> omega) (by split <;> omega)
theorem OkD.fuse {D : Dk} {n t : Nat} {x : Int} (h : OkD D n t) (hx : x ≤ 9223372036854775807) : OkD (fuseD D x) n t := by
  unfold fuseD
  split
  · exact h
  · exact h.power (d := D.dead) (by split <;> omega) (by split <;> omega)
theorem OkD.files {D : Dk} {n t n' t' : Nat} {f : List (List UInt8 × Nat)} (h : OkD D n t) (hl : D.f.length ≤ f.length) (h1 : ∀ x ∈ f, x.2 ≤ x.1.length) (h2 : ∀ x ∈ f, x.1.length ≤ t') (h3 : f.length ≤ n') (hn : n ≤ n') (hneg : D.room < 0 → f = []) : OkD { D with f := f } n' t' :=
  ⟨⟨h.w.nm, h.w.few, h.w.last.mono hl, fun c hc => (h.w.ch c hc).mono hl, h1, h.w.left, hneg, h.w.rng, h.w.lrng⟩, ⟨Nat.le_trans h.b.ch hn, h3, h2⟩, h.u⟩
theorem OkD.change {D : Dk} {n t : Nat} {c : Chg} (h : OkD D n t) (hc : OkC D.f.length c) (hlen : (applyN D.nm c).length ≤ 64) (hu : ((applyN D.nm c).map (·.2)).Nodup) : OkD (changeD D c) (n + 1) t := by
  have e : ∀ k, applyL D.last ((D.ch ++ [c]).take k) = applyL D.last (D.ch.take k) ∨ applyL D.last ((D.ch ++ [c]).take k) = applyN D.nm c := fun k => by
    rcases Nat.lt_or_ge D.ch.length k with hk | hk
    · right; rw [List.take_of_length_le (by simp; omega), applyL_snoc, ← h.w.nm]
    · left; rw [List.take_append_of_le_length hk]
  refine ⟨⟨?_, fun k => ?_, h.w.last, fun d hd => ?_, h.w.lasts, h.w.left, h.w.neg, h.w.rng, h.w.lrng⟩, ⟨?_, Nat.le_succ_of_le h.b.f, h.b.t⟩, fun k => ?_⟩
  · show applyN D.nm c = applyL D.last (D.ch ++ [c]); rw [applyL_snoc, ← h.w.nm]
  · show (applyL D.last ((D.ch ++ [c]).take k)).length ≤ 64
    rcases e k with e | e <;> rw [e]
    · exact h.w.few k
    · exact hlen
  · rcases List.mem_append.1 hd with hd | hd
    · exact h.w.ch d hd
    · rw [List.mem_singleton.1 hd]; exact hc
  · show (D.ch ++ [c]).length ≤ n + 1
    have := h.b.ch; rw [List.length_append]; simp; omega
  · show ((applyL D.last ((D.ch ++ [c]).take k)).map (·.2)).Nodup
    rcases e k with e | e <;> rw [e]
    · exact h.u k
    · exact hu
theorem findN_mem' {k : List UInt8} {i : Nat} : ∀ {l : Nm}, findN k l = some i → (k, i) ∈ l
  | [], h => by cases h
  | e :: l, h => by
    unfold findN at h
    split at h
    · rename_i e1; cases h; rw [e1]; exact List.mem_cons_self ..
    · exact List.mem_cons_of_mem _ (findN_mem' h)
theorem findN_none' {k : List UInt8} : ∀ {l : Nm}, findN k l = none → ∀ e ∈ l, ¬ e.1 = k
  | [], _, e, he => by cases he
  | d :: l, h, e, he => by
    unfold findN at h
    split at h
    · cases h
    · rename_i hne
      rcases List.mem_cons.1 he with rfl | he
      · exact fun h => hne h.symm
      · exact findN_none' h e he
theorem keepN_none {c : Chg} {l : Nm} (h1 : ∀ e ∈ l, ¬ e.1 = c.fr) (h2 : ∀ e ∈ l, ¬ e.1 = c.tn) : keepN c l = l :=
  List.filter_eq_self.2 fun e he => by simpa using ⟨h1 e he, h2 e he⟩
theorem insN_nodup {x : List UInt8 × Nat} {l : Nm} (h : (l.map (·.2)).Nodup) (hx : ∀ e ∈ l, ¬ e.2 = x.2) : ((insN x l).map (·.2)).Nodup := by
  rw [(insN_perm.map _).nodup_iff, List.map_append, List.nodup_append]
  refine ⟨h, by simp, fun a ha b hb e => ?_⟩
  obtain ⟨e1, h1, h2⟩ := List.mem_map.1 ha
  rw [List.map_cons, List.map_nil, List.mem_singleton] at hb
  exact hx e1 h1 (by rw [h2, e, hb])
theorem keepN_nodup {c : Chg} {l : Nm} (h : (l.map (·.2)).Nodup) : ((keepN c l).map (·.2)).Nodup := by
  unfold keepN; exact (List.filter_sublist.map _).nodup h
theorem same_of_nodup {l : Nm} (h : (l.map (·.2)).Nodup) {a b : List UInt8 × Nat} (ha : a ∈ l) (hb : b ∈ l) (e : a.2 = b.2) : a = b := by
  induction l with
  | nil => cases ha
  | cons d l ih =>
    rw [List.map_cons, List.nodup_cons] at h
    rcases List.mem_cons.1 ha with rfl | ha
    · rcases List.mem_cons.1 hb with rfl | hb
      · rfl
      · exact absurd (List.mem_map.2 ⟨b, hb, e.symm⟩) h.1
    · rcases List.mem_cons.1 hb with hb | hb
      · exact absurd (List.mem_map.2 ⟨a, ha, by rw [e, hb]⟩) h.1
      · exact ih h.2 ha hb
theorem keepN_lt {c : Chg} {l : Nm} {i : Nat} (h : (c.fr, i) ∈ l) : (keepN c l).length + 1 ≤ l.length := by
  induction l with
  | nil => cases h
  | cons d l ih =>
    unfold keepN at ih ⊢
    rw [List.filter_cons]
    rcases List.mem_cons.1 h with rfl | h
    · rw [if_neg (by simp)]; exact Nat.succ_le_succ (List.length_filter_le _ _)
    · have := ih h
      split
      · rw [List.length_cons, List.length_cons]; omega
      · rw [List.length_cons]; omega
theorem set_all {f : List (List UInt8 × Nat)} {p : List UInt8 × Nat → Prop} {i : Nat} {y : List UInt8 × Nat} (h : ∀ x ∈ f, p x) (hy : p y) : ∀ x ∈ f.set i y, p x := fun x hx => by
  rcases List.mem_or_eq_of_mem_set hx with hx | rfl
  · exact h x hx
  · exact hy
theorem OkD.append1_ {D : Dk} {n t : Nat} {k s : List UInt8} (h : OkD D n t) : OkD (append1 D k s).1 (n + 1) (t + s.length) := by
  unfold append1
  split
  · exact h.mono (Nat.le_succ _) (Nat.le_add_right _ _)
  · rename_i hf
    have hf : fileF k = true := by simpa using hf
    split
    · exact h.mono (Nat.le_succ _) (Nat.le_add_right _ _)
    · rename_i hr
      have hr1 : ¬ D.room - usedN D.f D.nm < s.length := fun e => hr (.inl e)
      have hroom : ¬ D.room < 0 := by omega
      split
      · rename_i i hi
        have hlt := (findN_lt h.w.good.f hi).1
        have hm := fileAt_mem hlt
        refine h.files (by unfold addTo; rw [List.length_set]; exact Nat.le_refl _) (set_all h.w.lasts ?_) (set_all (fun x hx => Nat.le_trans (h.b.t x hx) (Nat.le_add_right _ _)) ?_) (by unfold addTo; rw [List.length_set]; exact Nat.le_succ_of_le h.b.f) (Nat.le_succ _) fun e => absurd e hroom
        · have := h.w.lasts _ hm; show (fileAt D.f i).2 ≤ ((fileAt D.f i).1 ++ s).length; rw [List.length_append]; omega
        · have := h.b.t _ hm; show ((fileAt D.f i).1 ++ s).length ≤ _; rw [List.length_append]; omega
      · rename_i hi
        have hn64 : ¬ D.nm.length = 64 := fun e => hr (.inr ⟨hi, e⟩)
        have hk : keepN ⟨[], k, D.f.length⟩ D.nm = D.nm := keepN_none (fun e he => fileF_ne (h.w.good.f e he).1) (findN_none' hi)
        have ha : applyN D.nm ⟨[], k, D.f.length⟩ = insN (k, D.f.length) D.nm := by unfold applyN; rw [if_neg (fileF_ne hf)]; show insN _ (keepN _ _) = _; rw [hk]
        have h1 : OkD { D with f := D.f ++ [(s, 0)] } (n + 1) (t + s.length) := h.files (by simp) (fun x hx => by
            rcases List.mem_append.1 hx with hx | hx
            · exact h.w.lasts x hx
            · rw [List.mem_singleton.1 hx]; exact Nat.zero_le _) (fun x hx => by
            rcases List.mem_append.1 hx with hx | hx
            · exact Nat.le_trans (h.b.t x hx) (Nat.le_add_right _ _)
            · rw [List.mem_singleton.1 hx]; exact Nat.le_add_left _ _) (by have := h.b.f; simp; omega) (Nat.le_succ _) fun e => absurd e hroom
        have h2 := h1.change (c := ⟨[], k, D.f.length⟩) (.inr ⟨hf, by show D.f.length < (D.f ++ [(s, 0)]).length; simp, .inl rfl⟩) (by show (applyN D.nm _).length ≤ 64; rw [ha, insN_length]; have := h.w.nm64; omega) (by show ((applyN D.nm _).map _).Nodup; rw [ha]; exact insN_nodup h.nmu fun e he h3 => by have := (h.w.good.f e he).2; omega)
        exact ⟨h2.w, ⟨by have := h.b.ch; show (D.ch ++ [_]).length ≤ _; simp; omega, by have := h.b.f; show (D.f ++ [_]).length ≤ _; simp; omega, h2.b.t⟩, h2.u⟩
theorem OkD.sync1_ {D : Dk} {n t : Nat} {k : List UInt8} (h : OkD D n t) : OkD (sync1 D k).1 n t := by
  unfold sync1
  split
  · exact h
  · rename_i i hi
    have hlt := (findN_lt h.w.good.f hi).1
    exact h.files (by rw [List.length_set]; exact Nat.le_refl _) (set_all h.w.lasts (Nat.le_refl _)) (set_all h.b.t (show (fileAt D.f i).1.length ≤ t from h.b.t _ (fileAt_mem hlt))) (by rw [List.length_set]; exact h.b.f) (Nat.le_refl _) fun e => by rw [h.w.neg e]; rfl
theorem OkD.rename1_ {D : Dk} {n t : Nat} {k u : List UInt8} (h : OkD D n t) : OkD (rename1 D k u).1 (n + 1) t := by
  unfold rename1
  split
  · exact h.mono (Nat.le_succ _) (Nat.le_refl _)
  · rename_i i hi
    split
    · exact h.mono (Nat.le_succ _) (Nat.le_refl _)
    · rename_i hf
      have hf : fileF u = true := by simpa using hf
      have hlt := findN_lt h.w.good.f hi
      have hm := findN_mem' hi
      have ha : applyN D.nm ⟨k, u, i⟩ = insN (u, i) (keepN ⟨k, u, i⟩ D.nm) := by unfold applyN; rw [if_neg (fileF_ne hf)]
      refine h.change (.inr ⟨hf, hlt.1, .inr hlt.2⟩) ?_ ?_
      · rw [ha, insN_length]
        have := keepN_lt (c := ⟨k, u, i⟩) hm
        have := h.w.nm64; omega
      · rw [ha]
        refine insN_nodup (keepN_nodup h.nmu) fun e he h3 => ?_
        have h4 := List.mem_filter.1 he
        have := same_of_nodup h.nmu h4.1 hm h3
        rw [this] at h4
        exact (of_decide_eq_true h4.2).1 rfl
theorem OkD.remove1_ {D : Dk} {n t : Nat} {k : List UInt8} (h : OkD D n t) : OkD (remove1 D k).1 (n + 1) t := by
  unfold remove1
  split
  · exact h.mono (Nat.le_succ _) (Nat.le_refl _)
  · rename_i i hi
    have hlt := findN_lt h.w.good.f hi
    have ha : applyN D.nm ⟨k, [], 0⟩ = keepN ⟨k, [], 0⟩ D.nm := by unfold applyN; rw [if_pos rfl]
    refine h.change (.inl ⟨rfl, hlt.2⟩) ?_ ?_
    · rw [ha]; have := keepN_lt (c := ⟨k, [], 0⟩) (findN_mem' hi); have := h.w.nm64; omega
    · rw [ha]; exact keepN_nodup h.nmu
theorem OkD.syncN1_ {D : Dk} {n t : Nat} (h : OkD D n t) : OkD (syncN1 D).1 n t := by
  have e : ∀ k, applyL (syncN1 D).1.last ((syncN1 D).1.ch.take k) = D.nm := fun k => by show applyL D.nm (List.take k []) = D.nm; rw [List.take_nil]; rfl
  exact ⟨⟨rfl, fun k => by rw [e]; exact h.w.nm64, h.w.good, fun c hc => (by cases hc), h.w.lasts, h.w.left, h.w.neg, h.w.rng, h.w.lrng⟩, ⟨Nat.zero_le _, h.b.f, h.b.t⟩, fun k => by rw [e]; exact h.nmu⟩
theorem OkD.onWrite_ {D : Dk} {n t n' t' : Nat} {k : Dk → Dk × Int} (h : OkD D n t) (hn : n ≤ n') (ht : t ≤ t') (hk : ∀ {D : Dk}, OkD D n t → OkD (k D).1 n' t') : OkD (onWrite D k).1 n' t' := by
  unfold onWrite
  split
  · exact hk h.write
  · exact h.write.mono hn ht
theorem OkD.append {D : Dk} {n t : Nat} {k s : List UInt8} (h : OkD D n t) : OkD (appendD D k s).1 (n + 1) (t + s.length) := h.onWrite_ (Nat.le_succ _) (Nat.le_add_right _ _) OkD.append1_
theorem OkD.sync {D : Dk} {n t : Nat} {k : List UInt8} (h : OkD D n t) : OkD (syncD D k).1 n t := h.onWrite_ (Nat.le_refl _) (Nat.le_refl _) OkD.sync1_
theorem OkD.rename {D : Dk} {n t : Nat} {k u : List UInt8} (h : OkD D n t) : OkD (renameD D k u).1 (n + 1) t := h.onWrite_ (Nat.le_succ _) (Nat.le_refl _) OkD.rename1_
theorem OkD.remove {D : Dk} {n t : Nat} {k : List UInt8} (h : OkD D n t) : OkD (removeD D k).1 (n + 1) t := h.onWrite_ (Nat.le_succ _) (Nat.le_refl _) OkD.remove1_
theorem OkD.syncNames {D : Dk} {n t : Nat} (h : OkD D n t) : OkD (syncNamesD D).1 n t := h.onWrite_ (Nat.le_refl _) (Nat.le_refl _) OkD.syncN1_
theorem crashF_ok {zs : List Int} {t : Nat} : ∀ (l : Nm) (j : Nat) (f : List (List UInt8 × Nat)), (∀ e ∈ l, e.2 < f.length) → (∀ x ∈ f, x.2 ≤ x.1.length) → (∀ x ∈ f, x.1.length ≤ t) → (∀ x ∈ crashF zs j l f, x.2 ≤ x.1.length) ∧ (∀ x ∈ crashF zs j l f, x.1.length ≤ t)
  | [], _, f, _, h1, h2 => ⟨h1, h2⟩
  | e :: l, j, f, hl, h1, h2 => by
    have := cut_ok (zs := zs) (j := j) (hl e (List.mem_cons_self ..)) h1 h2
    exact crashF_ok l (j + 1) _ (fun d hd => by rw [List.length_set]; exact hl d (List.mem_cons_of_mem _ hd)) this.1 this.2
theorem OkD.crash {D : Dk} {n t : Nat} {zs : List Int} (h : OkD D n t) : OkD (crashD D zs) n t := by
  have hg : GoodN (applyL D.last (D.ch.take (keptF zs 0 D.ch.length))) D.f.length := applyL_good h.w.last fun c hc => h.w.ch c (List.mem_of_mem_take hc)
  have hc := crashF_ok (zs := zs) (applyL D.last (D.ch.take (keptF zs 0 D.ch.length))) 1 D.f (fun e he => (hg.f e he).2) h.w.lasts h.b.t
  have e : ∀ k, applyL (crashD D zs).last ((crashD D zs).ch.take k) = applyL D.last (D.ch.take (keptF zs 0 D.ch.length)) := fun k => by show applyL _ (List.take k []) = _; rw [List.take_nil]; rfl
  have hl : (crashD D zs).f.length = D.f.length := crashF_len _ _ _
  exact ⟨⟨rfl, fun k => by rw [e]; exact h.w.few _, by rw [hl]; exact hg, fun c hc => (by cases hc), hc.1, Int.le_refl _, fun e => List.length_eq_zero_iff.1 (by rw [hl, h.w.neg e]; rfl), h.w.rng, by show (-1 : Int) ≤ _; omega⟩, ⟨Nat.zero_le _, by rw [hl]; exact h.b.f, hc.2⟩, fun k => by rw [e]; exact h.u _⟩
/-! How much is used. -/
theorem fileAt_set {f : List (List UInt8 × Nat)} {i j : Nat} {y : List UInt8 × Nat} (h : i < f.length) : fileAt (f.set i y) j = if i = j then y else fileAt f j := by
  unfold fileAt
  rw [List.getD_eq_getElem?_getD, List.getD_eq_getElem?_getD, List.getElem?_set]
  split
  · rename_i e; subst e; first | rfl | (rw [if_pos h]; rfl)
  · rfl
theorem used_set_ne {f : List (List UInt8 × Nat)} {i : Nat} {y : List UInt8 × Nat} (hi : i < f.length) : ∀ {l : Nm}, (∀ e ∈ l, ¬ e.2 = i) → usedN (f.set i y) l = usedN f l
  | [], _ => rfl
  | e :: l, h => by
    have ih := used_set_ne (y := y) hi (l := l) fun e he => h e (List.mem_cons_of_mem _ he)
    unfold usedN at ih ⊢
    rw [List.map_cons, List.sum_cons, List.map_cons, List.sum_cons, ih, fileAt_set hi, if_neg (fun e1 => h e (List.mem_cons_self ..) e1.symm)]
theorem used_add {f : List (List UInt8 × Nat)} {k s : List UInt8} {i : Nat} (hi : i < f.length) : ∀ {l : Nm}, (l.map (·.2)).Nodup → findN k l = some i → usedN (addTo f i s) l = usedN f l + s.length
  | [], _, h => by cases h
  | e :: l, hn, h => by
    rw [List.map_cons, List.nodup_cons] at hn
    have hm := findN_mem' h
    unfold findN at h
    unfold addTo
    split at h
    · cases h
      have := used_set_ne (y := ((fileAt f e.2).1 ++ s, (fileAt f e.2).2)) hi (l := l) fun d hd h3 => hn.1 (List.mem_map.2 ⟨d, hd, h3⟩)
      unfold usedN at this ⊢
      rw [List.map_cons, List.sum_cons, List.map_cons, List.sum_cons, this, fileAt_set hi, if_pos rfl]
      show ((fileAt f e.2).1 ++ s).length + _ = _
      rw [List.length_append]; omega
    · rename_i hne
      have ih := used_add (s := s) hi hn.2 h
      have h2 := findN_mem' h
      unfold addTo at ih
      unfold usedN at ih ⊢
      rw [List.map_cons, List.sum_cons, List.map_cons, List.sum_cons, ih, fileAt_set hi, if_neg (fun e1 => hn.1 (List.mem_map.2 ⟨(k, i), h2, e1⟩))]; omega
theorem used_perm {f : List (List UInt8 × Nat)} {l m : Nm} (h : l.Perm m) : usedN f l = usedN f m := by unfold usedN; exact (h.map _).sum_nat
theorem used_grow {f : List (List UInt8 × Nat)} {y : List UInt8 × Nat} : ∀ {l : Nm}, (∀ e ∈ l, e.2 < f.length) → usedN (f ++ [y]) l = usedN f l
  | [], _ => rfl
  | e :: l, h => by
    have ih := used_grow (y := y) (l := l) fun e he => h e (List.mem_cons_of_mem _ he)
    have h0 := h e (List.mem_cons_self ..)
    unfold usedN at ih ⊢
    rw [List.map_cons, List.sum_cons, List.map_cons, List.sum_cons, ih]
    congr 2
    unfold fileAt
    rw [List.getD_eq_getElem?_getD, List.getD_eq_getElem?_getD, List.getElem?_append_left h0]
theorem used_new {f : List (List UInt8 × Nat)} {k s : List UInt8} {l : Nm} (h : ∀ e ∈ l, e.2 < f.length) : usedN (f ++ [(s, 0)]) (insN (k, f.length) l) = usedN f l + s.length := by
  rw [used_perm insN_perm]
  have : usedN (f ++ [(s, 0)]) (l ++ [(k, f.length)]) = usedN (f ++ [(s, 0)]) l + s.length := by
    unfold usedN
    rw [List.map_append, List.sum_append, List.map_cons, List.map_nil, List.sum_cons]
    congr 1
    unfold fileAt
    rw [List.getD_eq_getElem?_getD, List.getElem?_append_right (Nat.le_refl _), Nat.sub_self]; rfl
  rw [this, used_grow h]
theorem writeD_same (D : Dk) : (writeD D).1.f = D.f ∧ (writeD D).1.nm = D.nm ∧ (writeD D).1.room = D.room := by
  unfold writeD; split
  · exact ⟨rfl, rfl, rfl⟩
  · split <;> exact ⟨rfl, rfl, rfl⟩
/-- What an append does to what is used. -/
theorem append1_used {D : Dk} {n t : Nat} {k s : List UInt8} (h : OkD D n t) (hf : fileF k = true) :
    ((append1 D k s).2 = 0 ∧ usedN (append1 D k s).1.f (append1 D k s).1.nm = usedN D.f D.nm + s.length ∧ ((usedN D.f D.nm + s.length : Nat) : Int) ≤ D.room) ∨ ((append1 D k s) = (D, 4) ∧ (D.room < ((usedN D.f D.nm + s.length : Nat) : Int) ∨ (findN k D.nm = none ∧ D.nm.length = 64))) := by
  unfold append1
  rw [if_neg (by rw [hf]; exact Bool.noConfusion)]
  split
  · rename_i hr
    right
    refine ⟨rfl, hr.imp (fun h => by omega) id⟩
  · rename_i hr
    have hr1 : ¬ D.room - usedN D.f D.nm < s.length := fun e => hr (.inl e)
    left
    split
    · rename_i i hi
      exact ⟨rfl, used_add (findN_lt h.w.good.f hi).1 h.nmu hi, by omega⟩
    · rename_i hi
      refine ⟨rfl, ?_, by omega⟩
      have hk : keepN ⟨[], k, D.f.length⟩ D.nm = D.nm := keepN_none (fun e he => fileF_ne (h.w.good.f e he).1) (findN_none' hi)
      show usedN (D.f ++ [(s, 0)]) (applyN D.nm ⟨[], k, D.f.length⟩) = _
      unfold applyN; rw [if_neg (fileF_ne hf)]
      show usedN _ (insN (k, D.f.length) (keepN _ _)) = _
      rw [hk, used_new fun e he => (h.w.good.f e he).2]
end Go.Proofs.YtiggkfaonnnjoaaGreatDoor.SL

/- A disk as plain data: the fuse, the room, one file over another one. -/
namespace Go.Proofs.YtiggkfaonnnjoaaGreatDoor.SL
open Go.RowKit
set_option linter.unusedVariables false
set_option linter.unusedSimpArgs false
theorem OkD.used {D : Dk} {n t : Nat} (h : OkD D n t) : usedN D.f D.nm ≤ 64 * t := Nat.le_trans (usedN_le h.b _) (Nat.mul_le_mul_right _ h.w.nm64)
theorem one_used {D : Dk} {n t : Nat} {k : List UInt8} (h : OkD D n t) (hk : ∀ e ∈ D.nm, e.1 = k) : D.nm.length ≤ 1 ∧ usedN D.f D.nm ≤ t := by
  have h1 : D.nm.length ≤ 1 := by
    have hs := h.w.good.s
    match hn : D.nm with
    | [] => exact Nat.zero_le _
    | [a] => exact Nat.le_refl _
    | a :: b :: l =>
      rw [hn] at hs hk
      have := (List.pairwise_cons.1 hs).1 b (List.mem_cons_self ..)
      rw [hk a (List.mem_cons_self ..), hk b (List.mem_cons_of_mem _ (List.mem_cons_self ..)), lt_irr] at this
      cases this
  have := usedN_le h.b D.nm
  have h2 : D.nm.length * t ≤ 1 * t := Nat.mul_le_mul_right _ h1
  exact ⟨h1, by omega⟩
theorem applyL_keys {k : List UInt8} : ∀ {cs : List Chg} {l : Nm}, (∀ e ∈ l, e.1 = k) → (∀ c ∈ cs, c.tn = k) → ∀ e ∈ applyL l cs, e.1 = k
  | [], _, h, _ => h
  | c :: cs, l, h, hc => applyL_keys (cs := cs) (fun e he => by
      have hk : ∀ e ∈ keepN c l, e.1 = k := fun e he => h e (mem_of_filter he)
      unfold applyN at he
      split at he
      · exact hk e he
      · rcases mem_insN.1 he with rfl | he
        · exact hc c (List.mem_cons_self ..)
        · exact hk e he) fun d hd => hc d (List.mem_cons_of_mem _ hd)
/-! The fuse. -/
structure FI (D : Dk) (n : Int) (i : Nat) : Prop where
  room : D.room = 1000
  last : D.last = []
  ch : ∀ c ∈ D.ch, c.tn = [97]
  up : (i : Int) ≤ n → D.dead = false ∧ D.left = n - i
  down : n < (i : Int) → D.dead = true ∧ D.left = 0
theorem FI.new {n : Int} (h : 0 ≤ n) : FI (fuseD (newD 1000) n) n 0 := by
  refine ⟨rfl, rfl, fun c hc => (by cases hc), fun _ => ⟨rfl, ?_⟩, fun h2 => by omega⟩
  show (if (-1 : Int) > n then -1 else n) = n - (0 : Nat)
  rw [if_neg (by omega)]; simp
theorem append1_ch {D : Dk} {k s : List UInt8} : (append1 D k s).1.room = D.room ∧ (append1 D k s).1.last = D.last ∧ (append1 D k s).1.dead = D.dead ∧ (append1 D k s).1.left = D.left ∧ (∀ c ∈ (append1 D k s).1.ch, c ∈ D.ch ∨ c.tn = k) ∧ (append1 D k s).1.nm.length ≤ D.nm.length + 1 := by
  unfold append1
  split
  · exact ⟨rfl, rfl, rfl, rfl, fun c hc => .inl hc, Nat.le_succ _⟩
  · split
    · exact ⟨rfl, rfl, rfl, rfl, fun c hc => .inl hc, Nat.le_succ _⟩
    · split
      · exact ⟨rfl, rfl, rfl, rfl, fun c hc => .inl hc, Nat.le_succ _⟩
      · refine ⟨rfl, rfl, rfl, rfl, fun c hc => ?_, ?_⟩
        · rcases List.mem_append.1 hc with hc | hc
          · exact .inl hc
          · right; rw [List.mem_singleton.1 hc]
        · show (applyN D.nm _).length ≤ _
          unfold applyN
          have : (keepN ⟨[], k, D.f.length⟩ D.nm).length ≤ D.nm.length := List.length_filter_le _ _
          split
          · omega
          · rw [insN_length]; omega
theorem fileF_a : fileF [97] = true := by decide
theorem FI.keys {D : Dk} {n : Int} {i a b : Nat} (h : FI D n i) (ho : OkD D a b) : ∀ e ∈ D.nm, e.1 = [97] := by
  rw [ho.w.nm, h.last]; exact applyL_keys (fun e he => by cases he) h.ch
theorem append1_one {D : Dk} {a b : Nat} {k s : List UInt8} (ho : OkD D a b) (hf : fileF k = true) (hk : ∀ e ∈ D.nm, e.1 = k) (hr : ((b + s.length : Nat) : Int) ≤ D.room) : (append1 D k s).2 = 0 := by
  have hu := one_used ho hk
  rcases append1_used (k := k) (s := s) ho hf with h | ⟨_, h | h⟩
  · exact h.1
  · omega
  · omega
theorem FI.step {D : Dk} {n : Int} {i : Nat} (h : FI D n i) (ho : OkD D i i) (hi : i ≤ 40) : FI (appendD D [97] [120]).1 n (i + 1) ∧ (appendD D [97] [120]).2 = if (i : Int) < n then 0 else 11 := by
  unfold appendD onWrite
  by_cases hn : (i : Int) < n
  · obtain ⟨h1, h2⟩ := h.up (by omega)
    have hw : writeD D = ({ D with left := n - ((i + 1 : Nat) : Int) }, true) := by
      unfold writeD; rw [if_neg (by omega), if_neg (by rw [h1]; exact Bool.noConfusion), if_neg (by omega)]
      have : D.left - 1 = n - ((i + 1 : Nat) : Int) := by omega
      rw [this]
    rw [hw, if_pos rfl, if_pos hn]
    have ho2 : OkD { D with left := n - ((i + 1 : Nat) : Int) } i i := by have := ho.write; rw [hw] at this; exact this
    have hk : ∀ e ∈ D.nm, e.1 = [97] := h.keys ho
    have hc := append1_ch (D := { D with left := n - ((i + 1 : Nat) : Int) }) (k := [97]) (s := [120])
    refine ⟨⟨hc.1.trans h.room, hc.2.1.trans h.last, fun c hx => ?_, fun _ => ⟨hc.2.2.1.trans h1, hc.2.2.2.1⟩, fun h3 => by omega⟩, ?_⟩
    · rcases hc.2.2.2.2.1 c hx with hx | hx
      · exact h.ch c hx
      · exact hx
    · exact append1_one ho2 fileF_a hk (by show _ ≤ D.room; rw [h.room]; simp; omega)
  · rw [if_neg hn]
    have hw : writeD D = ({ D with dead := true }, false) := by
      unfold writeD
      have : D.left = 0 := by
        rcases Int.lt_or_eq_of_le (show n ≤ (i : Int) by omega) with h3 | h3
        · exact (h.down h3).2
        · have := (h.up (by omega)).2; omega
      rw [if_pos this]
    rw [hw, if_neg Bool.noConfusion]
    refine ⟨⟨h.room, h.last, h.ch, fun h3 => by omega, fun _ => ⟨rfl, ?_⟩⟩, rfl⟩
    rcases Int.lt_or_eq_of_le (show n ≤ (i : Int) by omega) with h3 | h3
    · exact (h.down h3).2
    · have := (h.up (by omega)).2; show D.left = 0; omega
theorem FI.dead {D : Dk} {n : Int} {i : Nat} (h : FI D n i) : (!D.dead) = decide ((i : Int) ≤ n) := by
  by_cases hn : (i : Int) ≤ n
  · rw [(h.up hn).1, decide_eq_true hn]; rfl
  · rw [(h.down (by omega)).1, decide_eq_false hn]; rfl
theorem writeD_up {D : Dk} (h1 : D.left = -1) (h2 : D.dead = false) : writeD D = (D, true) := by
  unfold writeD
  rw [if_neg (by omega), if_neg (by rw [h2]; exact Bool.noConfusion), if_pos (by omega), ← h1]
theorem FI.crash {D : Dk} {n : Int} {i : Nat} {zs : List Int} (h : FI D n i) (ho : OkD D i i) (hi : i ≤ 40) : (appendD (crashD D zs) [97] [120]).2 = 0 := by
  unfold appendD onWrite
  rw [writeD_up rfl rfl, if_pos rfl]
  refine append1_one (ho.crash (zs := zs)) fileF_a ?_ (by show _ ≤ D.room; rw [h.room]; simp; omega)
  show ∀ e ∈ applyL D.last (D.ch.take (keptF zs 0 D.ch.length)), e.1 = [97]
  rw [h.last]
  exact applyL_keys (fun e he => by cases he) fun c hc => h.ch c (List.mem_of_mem_take hc)
/-! The room. -/
structure RI (D : Dk) (room : Int) (u i : Nat) : Prop where
  room : D.room = room
  left : D.left = -1
  dead : D.dead = false
  u : usedN D.f D.nm = u
  n : D.nm.length ≤ i
theorem RI.new (room : Int) : RI (newD room) room 0 0 := ⟨rfl, rfl, rfl, rfl, Nat.le_refl _⟩
theorem RI.step {D : Dk} {room : Int} {u i a b : Nat} {k s : List UInt8} (h : RI D room u i) (ho : OkD D a b) (hi : i < 64) (hf : fileF k = true) :
    ((appendD D k s).2 = 0 ∧ ((u + s.length : Nat) : Int) ≤ room ∧ RI (appendD D k s).1 room (u + s.length) (i + 1)) ∨ ((appendD D k s).2 = 4 ∧ room < ((u + s.length : Nat) : Int) ∧ RI (appendD D k s).1 room u (i + 1)) := by
  have e : appendD D k s = append1 D k s := by unfold appendD onWrite; rw [writeD_up h.left h.dead, if_pos rfl]
  rw [e]
  have hc := append1_ch (D := D) (k := k) (s := s)
  have hn := h.n
  rcases append1_used (k := k) (s := s) ho hf with ⟨h1, h2, h3⟩ | ⟨h1, h2 | h2⟩
  · rw [h.u] at h2 h3; rw [h.room] at h3
    exact .inl ⟨h1, h3, hc.1.trans h.room, hc.2.2.2.1.trans h.left, hc.2.2.1.trans h.dead, h2, by omega⟩
  · rw [h1]; rw [h.u, h.room] at h2
    exact .inr ⟨rfl, h2, h.room, h.left, h.dead, h.u, Nat.le_succ_of_le h.n⟩
  · omega
theorem fileF_let {i : Nat} : fileF [UInt8.ofNat (97 + i % 5)] = true := by
  have : i % 5 = 0 ∨ i % 5 = 1 ∨ i % 5 = 2 ∨ i % 5 = 3 ∨ i % 5 = 4 := by omega
  rcases this with h | h | h | h | h <;> rw [h] <;> decide
end Go.Proofs.YtiggkfaonnnjoaaGreatDoor.SL

/- A disk as plain data: one file over another one. -/
namespace Go.Proofs.YtiggkfaonnnjoaaGreatDoor.SL
open Go.RowKit
set_option linter.unusedVariables false
set_option linter.unusedSimpArgs false
def sw0 (x : List UInt8) (l : Int) : Dk := ⟨1048576, [(x, x.length)], [([109], 0)], [([109], 0)], [], false, l⟩
theorem sw_1 {x : List UInt8} (h : x.length ≤ 1000) : appendD (newD 1048576) [109] x = (⟨1048576, [(x, 0)], [([109], 0)], [], [⟨[], [109], 0⟩], false, -1⟩, 0) := by
  unfold appendD onWrite
  rw [writeD_up rfl rfl, if_pos rfl]
  show append1 (newD 1048576) [109] x = _
  unfold append1
  rw [if_neg (by decide), if_neg (by
    intro h2
    rcases h2 with h2 | h2
    · have : (newD 1048576).room - ((usedN (newD 1048576).f (newD 1048576).nm : Nat) : Int) = 1048576 := rfl
      omega
    · exact absurd h2.2 (by decide))]
  rfl
theorem sw_2 {x : List UInt8} : syncD ⟨1048576, [(x, 0)], [([109], 0)], [], [⟨[], [109], 0⟩], false, -1⟩ [109] = (⟨1048576, [(x, x.length)], [([109], 0)], [], [⟨[], [109], 0⟩], false, -1⟩, 0) := rfl
theorem sw_3 {x : List UInt8} : syncNamesD ⟨1048576, [(x, x.length)], [([109], 0)], [], [⟨[], [109], 0⟩], false, -1⟩ = (sw0 x (-1), 0) := rfl
theorem sw_4 {x : List UInt8} {k : Nat} : fuseD (sw0 x (-1)) (k : Int) = sw0 x k := by
  unfold fuseD sw0
  rw [if_neg Bool.noConfusion, if_neg (by omega)]
theorem writeD_0 {D : Dk} (h : D.left = 0) : writeD D = ({ D with dead := true }, false) := by unfold writeD; rw [if_pos h]
theorem writeD_n {D : Dk} {k : Nat} (h : D.left = ((k + 1 : Nat) : Int)) (h2 : D.dead = false) : writeD D = ({ D with left := (k : Int) }, true) := by
  unfold writeD
  rw [if_neg (by omega), if_neg (by rw [h2]; exact Bool.noConfusion), if_neg (by omega)]
  have : D.left - 1 = (k : Int) := by omega
  rw [this]
def swA (x y : List UInt8) (s : Nat) (d : Bool) (l : Int) : Dk := ⟨1048576, [(x, x.length), (y, s)], [([109], 0), ([110], 1)], [([109], 0)], [⟨[], [110], 1⟩], d, l⟩
def swC (x y : List UInt8) (d : Bool) (l : Int) : Dk := ⟨1048576, [(x, x.length), (y, y.length)], [([109], 1)], [([109], 0)], [⟨[], [110], 1⟩, ⟨[110], [109], 1⟩], d, l⟩
theorem sw_a0 {x y : List UInt8} : appendD (sw0 x ((0 : Nat) : Int)) [110] y = ({ sw0 x 0 with dead := true }, 11) := rfl
theorem sw_a {x y : List UInt8} {k : Nat} (hx : x.length ≤ 1000) (hy : y.length ≤ 1000) : appendD (sw0 x ((k + 1 : Nat) : Int)) [110] y = (swA x y 0 false k, 0) := by
  unfold appendD onWrite
  rw [writeD_n (k := k) rfl rfl, if_pos rfl]
  show append1 (sw0 x (k : Int)) [110] y = _
  unfold append1
  rw [if_neg (by decide), if_neg (by
    intro h2
    rcases h2 with h2 | h2
    · have h3 : usedN (sw0 x (k : Int)).f (sw0 x (k : Int)).nm = x.length + 0 := rfl
      have h4 : (sw0 x (k : Int)).room - ((usedN (sw0 x (k : Int)).f (sw0 x (k : Int)).nm : Nat) : Int) < (y.length : Int) := h2
      have h5 : (sw0 x (k : Int)).room = 1048576 := rfl
      omega
    · have : ([([109], 0)] : Nm).length = 64 := h2.2
      cases this)]
  rfl
theorem sw_b0 {x y : List UInt8} : syncD (swA x y 0 false ((0 : Nat) : Int)) [110] = (swA x y 0 true 0, 11) := rfl
theorem sw_b {x y : List UInt8} {k : Nat} : syncD (swA x y 0 false ((k + 1 : Nat) : Int)) [110] = (swA x y y.length false k, 0) := by
  unfold syncD onWrite
  rw [writeD_n (k := k) rfl rfl, if_pos rfl]; rfl
theorem sw_c0 {x y : List UInt8} : renameD (swA x y y.length false ((0 : Nat) : Int)) [110] [109] = (swA x y y.length true 0, 11) := rfl
theorem sw_c {x y : List UInt8} {k : Nat} : renameD (swA x y y.length false ((k + 1 : Nat) : Int)) [110] [109] = (swC x y false k, 0) := by
  unfold renameD onWrite
  rw [writeD_n (k := k) rfl rfl, if_pos rfl]; rfl
theorem sw_e0 {x y : List UInt8} : syncNamesD (swC x y false ((0 : Nat) : Int)) = (swC x y true 0, 11) := rfl
theorem sw_e {x y : List UInt8} {k : Nat} : syncNamesD (swC x y false ((k + 1 : Nat) : Int)) = ({ swC x y false k with last := [([109], 1)], ch := [] }, 0) := by
  unfold syncNamesD onWrite
  rw [writeD_n (k := k) rfl rfl, if_pos rfl]; rfl
theorem keptF_zero (zs : List Int) (i : Nat) : keptF zs i 0 = 0 := by have := keptF_le zs i 0; omega
theorem cut_full (zs : List Int) (i : Nat) (x : List UInt8) : cutF zs i (x, x.length) = (x, x.length) := by
  unfold cutF
  simp only [Nat.sub_self, keptF_zero, Nat.add_zero, List.take_length]
theorem crash_read {D : Dk} {zs : List Int} {l : Nm} {k : List UInt8} (h : applyL D.last (D.ch.take (keptF zs 0 D.ch.length)) = l) : readD (crashD D zs) k = readD ⟨D.room, crashF zs 1 l D.f, l, l, [], false, -1⟩ k := by
  unfold crashD; rw [h]
theorem sw_r0 {zs : List Int} {x : List UInt8} {f : List (List UInt8 × Nat)} {r : Int} : readD ⟨r, crashF zs 1 [([109], 0)] ((x, x.length) :: f), [([109], 0)], [([109], 0)], [], false, -1⟩ [109] = (x, 0) := by
  show ((cutF zs 1 (x, x.length)).1, (0 : Int)) = _; rw [cut_full]
theorem sw_r1 {zs : List Int} {x : List UInt8} {z : List UInt8 × Nat} {r : Int} : readD ⟨r, crashF zs 1 [([109], 0), ([110], 1)] [(x, x.length), z], [([109], 0), ([110], 1)], [([109], 0), ([110], 1)], [], false, -1⟩ [109] = (x, 0) := by
  show ((cutF zs 1 (x, x.length)).1, (0 : Int)) = _; rw [cut_full]
theorem sw_r2 {zs : List Int} {y : List UInt8} {z : List UInt8 × Nat} {r : Int} : readD ⟨r, crashF zs 1 [([109], 1)] [z, (y, y.length)], [([109], 1)], [([109], 1)], [], false, -1⟩ [109] = (y, 0) := by
  show ((cutF zs 1 (y, y.length)).1, (0 : Int)) = _; rw [cut_full]
theorem sw_x0 {x : List UInt8} {zs : List Int} {d : Bool} {l : Int} : readD (crashD { sw0 x l with dead := d } zs) [109] = (x, 0) := by
  rw [crash_read (l := [([109], 0)]) (by show applyL [([109], 0)] (List.take _ []) = _; rw [List.take_nil]; rfl)]; exact sw_r0
theorem sw_xA {x y : List UInt8} {zs : List Int} {s : Nat} {d : Bool} {l : Int} : readD (crashD (swA x y s d l) zs) [109] = (x, 0) := by
  have h := keptF_le zs 0 1
  have : keptF zs 0 1 = 0 ∨ keptF zs 0 1 = 1 := by omega
  rcases this with e | e
  · rw [crash_read (l := [([109], 0)]) (by show applyL [([109], 0)] (List.take (keptF zs 0 1) _) = _; rw [e]; rfl)]; exact sw_r0
  · rw [crash_read (l := [([109], 0), ([110], 1)]) (by show applyL [([109], 0)] (List.take (keptF zs 0 1) _) = _; rw [e]; rfl)]; exact sw_r1
theorem sw_xC {x y : List UInt8} {zs : List Int} {d : Bool} {l : Int} : readD (crashD (swC x y d l) zs) [109] = (x, 0) ∨ readD (crashD (swC x y d l) zs) [109] = (y, 0) := by
  have h := keptF_le zs 0 2
  have : keptF zs 0 2 = 0 ∨ keptF zs 0 2 = 1 ∨ keptF zs 0 2 = 2 := by omega
  rcases this with e | e | e
  · left; rw [crash_read (l := [([109], 0)]) (by show applyL [([109], 0)] (List.take (keptF zs 0 2) _) = _; rw [e]; rfl)]; exact sw_r0
  · left; rw [crash_read (l := [([109], 0), ([110], 1)]) (by show applyL [([109], 0)] (List.take (keptF zs 0 2) _) = _; rw [e]; rfl)]; exact sw_r1
  · right; rw [crash_read (l := [([109], 1)]) (by show applyL [([109], 0)] (List.take (keptF zs 0 2) _) = _; rw [e]; rfl)]; exact sw_r2
theorem sw_xE {x y : List UInt8} {zs : List Int} {d : Bool} {l : Int} : readD (crashD { swC x y d l with last := [([109], 1)], ch := [] } zs) [109] = (y, 0) := by
  rw [crash_read (l := [([109], 1)]) (by show applyL [([109], 1)] (List.take _ []) = _; rw [List.take_nil]; rfl)]; exact sw_r2
/-- Where it stops, and what is read behind the crash. -/
theorem sw_stop1 {x y : List UInt8} {k : Nat} {D1 : Dk} {zs : List Int} (hx : x.length ≤ 1000) (hy : y.length ≤ 1000) (e1 : D1 = (appendD (sw0 x (k : Int)) [110] y).1) (h : ¬ (appendD (sw0 x (k : Int)) [110] y).2 = 0) : readD (crashD D1 zs) [109] = (x, 0) := by
  match k with
  | 0 => rw [e1, sw_a0]; exact sw_x0
  | k + 1 => rw [sw_a hx hy] at h; exact absurd rfl h
theorem sw_go1 {x y : List UInt8} {k : Nat} {D1 : Dk} (hx : x.length ≤ 1000) (hy : y.length ≤ 1000) (e1 : D1 = (appendD (sw0 x (k : Int)) [110] y).1) (h : (appendD (sw0 x (k : Int)) [110] y).2 = 0) : ∃ k1 : Nat, D1 = swA x y 0 false k1 := by
  match k with
  | 0 => rw [sw_a0] at h; cases h
  | k + 1 => rw [sw_a hx hy] at e1; exact ⟨k, e1⟩
theorem sw_stop2 {x y : List UInt8} {k : Nat} {D1 : Dk} {zs : List Int} (e1 : D1 = (syncD (swA x y 0 false (k : Int)) [110]).1) (h : ¬ (syncD (swA x y 0 false (k : Int)) [110]).2 = 0) : readD (crashD D1 zs) [109] = (x, 0) := by
  match k with
  | 0 => rw [e1, sw_b0]; exact sw_xA
  | k + 1 => rw [sw_b] at h; exact absurd rfl h
theorem sw_go2 {x y : List UInt8} {k : Nat} {D1 : Dk} (e1 : D1 = (syncD (swA x y 0 false (k : Int)) [110]).1) (h : (syncD (swA x y 0 false (k : Int)) [110]).2 = 0) : ∃ k1 : Nat, D1 = swA x y y.length false k1 := by
  match k with
  | 0 => rw [sw_b0] at h; cases h
  | k + 1 => rw [sw_b] at e1; exact ⟨k, e1⟩
theorem sw_stop3 {x y : List UInt8} {k : Nat} {D1 : Dk} {zs : List Int} (e1 : D1 = (renameD (swA x y y.length false (k : Int)) [110] [109]).1) (h : ¬ (renameD (swA x y y.length false (k : Int)) [110] [109]).2 = 0) : readD (crashD D1 zs) [109] = (x, 0) := by
  match k with
  | 0 => rw [e1, sw_c0]; exact sw_xA
  | k + 1 => rw [sw_c] at h; exact absurd rfl h
theorem sw_go3 {x y : List UInt8} {k : Nat} {D1 : Dk} (e1 : D1 = (renameD (swA x y y.length false (k : Int)) [110] [109]).1) (h : (renameD (swA x y y.length false (k : Int)) [110] [109]).2 = 0) : ∃ k1 : Nat, D1 = swC x y false k1 := by
  match k with
  | 0 => rw [sw_c0] at h; cases h
  | k + 1 => rw [sw_c] at e1; exact ⟨k, e1⟩
theorem sw_end {x y : List UInt8} {k : Nat} {D1 : Dk} {zs : List Int} (e1 : D1 = (syncNamesD (swC x y false (k : Int))).1) : ((syncNamesD (swC x y false (k : Int))).2 = 0 ∧ readD (crashD D1 zs) [109] = (y, 0)) ∨ (¬ (syncNamesD (swC x y false (k : Int))).2 = 0 ∧ (readD (crashD D1 zs) [109] = (x, 0) ∨ readD (crashD D1 zs) [109] = (y, 0))) := by
  match k with
  | 0 => rw [e1, sw_e0]; exact .inr ⟨fun h => (by cases h), sw_xC⟩
  | k + 1 => rw [e1, sw_e]; exact .inl ⟨rfl, sw_xE⟩
end Go.Proofs.YtiggkfaonnnjoaaGreatDoor.SL
