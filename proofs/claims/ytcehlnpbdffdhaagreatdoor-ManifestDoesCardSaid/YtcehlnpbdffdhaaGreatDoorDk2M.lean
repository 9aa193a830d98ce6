import Derived.Test.YtcehlnpbdffdhaaGreatDoorDrM
/- A disk as plain data: what always holds of it, whatever is done. -/
namespace Go.Proofs.YtcehlnpbdffdhaaGreatDoor.SL
open Go.RowKit
set_option linter.unusedVariables false
set_option linter.unusedSimpArgs false
structure OkD (D : Dk) (n t : Nat) : Prop where
  w : WFD D
  b : Bnd D n t
  u : ∀ k, ((applyL D.last (D.ch.take k)).map (·.2)).Nodup
theorem OkD.mono {D : Dk} {n t n' t' : Nat} (h : OkD D n t) (hn : n ≤ n') (ht : t ≤ t') : OkD D n' t' := ⟨h.w, h.b.mono hn ht, h.u⟩
theorem OkD.nmu {D : Dk} {n t : Nat} (h : OkD D n t) : (D.nm.map (·.2)).Nodup := by
  have := h.u D.ch.length; rw [List.take_length] at this; rw [h.w.nm]; exact this
theorem OkD.new {room : Int} (h : -9223372036854775808 ≤ room ∧ room ≤ 9223372036854775807) : OkD (newD room) 0 0 := by
  have e : ∀ k, applyL (newD room).last ((newD room).ch.take k) = [] := fun k => by show applyL [] (List.take k []) = []; rw [List.take_nil]; rfl
  refine ⟨⟨rfl, fun k => by rw [e]; exact Nat.zero_le _, ⟨List.Pairwise.nil, fun e he => (by cases he)⟩, fun c hc => (by cases hc), fun x hx => (by cases hx), Int.le_refl _, fun _ => rfl, h, by show (-1 : Int) ≤ _; omega⟩, ⟨Nat.zero_le _, Nat.zero_le _, fun x hx => (by cases hx)⟩, fun k => by rw [e]; exact List.nodup_nil⟩
theorem OkD.power {D : Dk} {n t : Nat} {d : Bool} {l : Int} (h : OkD D n t) (h1 : -1 ≤ l) (h2 : l ≤ 9223372036854775807) : OkD { D with dead := d, left := l } n t :=
  ⟨⟨h.w.nm, h.w.few, h.w.last, h.w.ch, h.w.lasts, h1, h.w.neg, h.w.rng, h2⟩, ⟨h.b.ch, h.b.f, h.b.t⟩, h.u⟩
theorem OkD.write {D : Dk} {n t : Nat} (h : OkD D n t) : OkD (writeD D).1 n t := by
  have h1 := h.w.left
  have h2 := h.w.lrng
  unfold writeD
  split
  · exact h.power (d := true) h1 h2
  · split
    · exact h
    · exact h.power (d := D.dead) (by split <;> omega) (by split <;> omega)
theorem OkD.fuse {D : Dk} {n t : Nat} {x : Int} (h : OkD D n t) (hx : x ≤ 9223372036854775807) : OkD (fuseD D x) n t := by
  unfold fuseD
  split
  · exact h
  · exact h.power (d := D.dead) (by split <;> omega) (by split <;> omega)
theorem OkD.files {D : Dk} {n t n' t' : Nat} {f : List (List UInt8 × Nat)} (h : OkD D n t) (hl : D.f.length ≤ f.length) (h1 : ∀ x ∈ f, x.2 ≤ x.1.length) (h2 : ∀ x ∈ f, x.1.length ≤ t') (h3 : f.length ≤ n') (hn : n ≤ n') (hneg : D.room < 0 → f = []) : OkD { D with f := f } n' t' :=
  ⟨⟨h.w.nm, h.w.few, h.w.last.mono hl, fun c hc => (h.w.ch c hc).mono hl, h1, h.w.left, hneg, h.w.rng, h.w.lrng⟩, ⟨Nat.le_trans h.b.ch hn, h3, h2⟩, h.u⟩
theorem OkD.change {D : Dk} {n t : Nat} {c : Chg} (h : OkD D n t) (hc : OkC D.f.length c) (hlen : (applyN D.nm c).length ≤ 64) (hu : ((applyN D.nm c).map (·.2)).Nodup) : OkD (changeD D c) (n + 1) t := by
  have e : ∀ k, applyL D.last ((D.ch ++ [c]).take k) = applyL D.last (D.ch.take k) ∨ applyL D.last ((D.ch ++ [c]).take k) = applyN D.nm c := fun k => by
    rcases Nat.lt_or_ge D.ch.length k with hk | hk
    · right; rw [List.take_of_length_le (by simp; omega), applyL_snoc, ← h.w.nm]
    · left; rw [List.take_append_of_le_length hk]
  refine ⟨⟨?_, fun k => ?_, h.w.last, fun d hd => ?_, h.w.lasts, h.w.left, h.w.neg, h.w.rng, h.w.lrng⟩, ⟨?_, Nat.le_succ_of_le h.b.f, h.b.t⟩, fun k => ?_⟩
  · show applyN D.nm c = applyL D.last (D.ch ++ [c]); rw [applyL_snoc, ← h.w.nm]
  · show (applyL D.last ((D.ch ++ [c]).take k)).length ≤ 64
    rcases e k with e | e <;> rw [e]
    · exact h.w.few k
    · exact hlen
  · rcases List.mem_append.1 hd with hd | hd
    · exact h.w.ch d hd
    · rw [List.mem_singleton.1 hd]; exact hc
  · show (D.ch ++ [c]).length ≤ n + 1
    have := h.b.ch; rw [List.length_append]; simp; omega
  · show ((applyL D.last ((D.ch ++ [c]).take k)).map (·.2)).Nodup
    rcases e k with e | e <;> rw [e]
    · exact h.u k
    · exact hu
theorem findN_mem' {k : List UInt8} {i : Nat} : ∀ {l : Nm}, findN k l = some i → (k, i) ∈ l
  | [], h => by cases h
  | e :: l, h => by
    unfold findN at h
    split at h
    · rename_i e1; cases h; rw [e1]; exact List.mem_cons_self ..
    · exact List.mem_cons_of_mem _ (findN_mem' h)
theorem findN_none' {k : List UInt8} : ∀ {l : Nm}, findN k l = none → ∀ e ∈ l, ¬ e.1 = k
  | [], _, e, he => by cases he
  | d :: l, h, e, he => by
    unfold findN at h
    split at h
    · cases h
    · rename_i hne
      rcases List.mem_cons.1 he with rfl | he
      · exact fun h => hne h.symm
      · exact findN_none' h e he
theorem keepN_none {c : Chg} {l : Nm} (h1 : ∀ e ∈ l, ¬ e.1 = c.fr) (h2 : ∀ e ∈ l, ¬ e.1 = c.tn) : keepN c l = l :=
  List.filter_eq_self.2 fun e he => by simpa using ⟨h1 e he, h2 e he⟩
theorem insN_nodup {x : List UInt8 × Nat} {l : Nm} (h : (l.map (·.2)).Nodup) (hx : ∀ e ∈ l, ¬ e.2 = x.2) : ((insN x l).map (·.2)).Nodup := by
  rw [(insN_perm.map _).nodup_iff, List.map_append, List.nodup_append]
  refine ⟨h, by simp, fun a ha b hb e => ?_⟩
  obtain ⟨e1, h1, h2⟩ := List.mem_map.1 ha
  rw [List.map_cons, List.map_nil, List.mem_singleton] at hb
  exact hx e1 h1 (by rw [h2, e, hb])
theorem keepN_nodup {c : Chg} {l : Nm} (h : (l.map (·.2)).Nodup) : ((keepN c l).map (·.2)).Nodup := by
  unfold keepN; exact (List.filter_sublist.map _).nodup h
theorem same_of_nodup {l : Nm} (h : (l.map (·.2)).Nodup) {a b : List UInt8 × Nat} (ha : a ∈ l) (hb : b ∈ l) (e : a.2 = b.2) : a = b := by
  induction l with
  | nil => cases ha
  | cons d l ih =>
    rw [List.map_cons, List.nodup_cons] at h
    rcases List.mem_cons.1 ha with rfl | ha
    · rcases List.mem_cons.1 hb with rfl | hb
      · rfl
      · exact absurd (List.mem_map.2 ⟨b, hb, e.symm⟩) h.1
    · rcases List.mem_cons.1 hb with hb | hb
      · exact absurd (List.mem_map.2 ⟨a, ha, by rw [e, hb]⟩) h.1
      · exact ih h.2 ha hb
theorem keepN_lt {c : Chg} {l : Nm} {i : Nat} (h : (c.fr, i) ∈ l) : (keepN c l).length + 1 ≤ l.length := by
  induction l with
  | nil => cases h
  | cons d l ih =>
    unfold keepN at ih ⊢
    rw [List.filter_cons]
    rcases List.mem_cons.1 h with rfl | h
    · rw [if_neg (by simp)]; exact Nat.succ_le_succ (List.length_filter_le _ _)
    · have := ih h
      split
      · rw [List.length_cons, List.length_cons]; omega
      · rw [List.length_cons]; omega
theorem set_all {f : List (List UInt8 × Nat)} {p : List UInt8 × Nat → Prop} {i : Nat} {y : List UInt8 × Nat} (h : ∀ x ∈ f, p x) (hy : p y) : ∀ x ∈ f.set i y, p x := fun x hx => by
  rcases List.mem_or_eq_of_mem_set hx with hx | rfl
  · exact h x hx
  · exact hy
theorem OkD.append1_ {D : Dk} {n t : Nat} {k s : List UInt8} (h : OkD D n t) : OkD (append1 D k s).1 (n + 1) (t + s.length) := by
  unfold append1
  split
  · exact h.mono (Nat.le_succ _) (Nat.le_add_right _ _)
  · rename_i hf
    have hf : fileF k = true := by simpa using hf
    split
    · exact h.mono (Nat.le_succ _) (Nat.le_add_right _ _)
    · rename_i hr
      have hr1 : ¬ D.room - usedN D.f D.nm < s.length := fun e => hr (.inl e)
      have hroom : ¬ D.room < 0 := by omega
      split
      · rename_i i hi
        have hlt := (findN_lt h.w.good.f hi).1
        have hm := fileAt_mem hlt
        refine h.files (by unfold addTo; rw [List.length_set]; exact Nat.le_refl _) (set_all h.w.lasts ?_) (set_all (fun x hx => Nat.le_trans (h.b.t x hx) (Nat.le_add_right _ _)) ?_) (by unfold addTo; rw [List.length_set]; exact Nat.le_succ_of_le h.b.f) (Nat.le_succ _) fun e => absurd e hroom
        · have := h.w.lasts _ hm; show (fileAt D.f i).2 ≤ ((fileAt D.f i).1 ++ s).length; rw [List.length_append]; omega
        · have := h.b.t _ hm; show ((fileAt D.f i).1 ++ s).length ≤ _; rw [List.length_append]; omega
      · rename_i hi
        have hn64 : ¬ D.nm.length = 64 := fun e => hr (.inr ⟨hi, e⟩)
        have hk : keepN ⟨[], k, D.f.length⟩ D.nm = D.nm := keepN_none (fun e he => fileF_ne (h.w.good.f e he).1) (findN_none' hi)
        have ha : applyN D.nm ⟨[], k, D.f.length⟩ = insN (k, D.f.length) D.nm := by unfold applyN; rw [if_neg (fileF_ne hf)]; show insN _ (keepN _ _) = _; rw [hk]
        have h1 : OkD { D with f := D.f ++ [(s, 0)] } (n + 1) (t + s.length) := h.files (by simp) (fun x hx => by
            rcases List.mem_append.1 hx with hx | hx
            · exact h.w.lasts x hx
            · rw [List.mem_singleton.1 hx]; exact Nat.zero_le _) (fun x hx => by
            rcases List.mem_append.1 hx with hx | hx
            · exact Nat.le_trans (h.b.t x hx) (Nat.le_add_right _ _)
            · rw [List.mem_singleton.1 hx]; exact Nat.le_add_left _ _) (by have := h.b.f; simp; omega) (Nat.le_succ _) fun e => absurd e hroom
        have h2 := h1.change (c := ⟨[], k, D.f.length⟩) (.inr ⟨hf, by show D.f.length < (D.f ++ [(s, 0)]).length; simp, .inl rfl⟩) (by show (applyN D.nm _).length ≤ 64; rw [ha, insN_length]; have := h.w.nm64; omega) (by show ((applyN D.nm _).map _).Nodup; rw [ha]; exact insN_nodup h.nmu fun e he h3 => by have := (h.w.good.f e he).2; omega)
        exact ⟨h2.w, ⟨by have := h.b.ch; show (D.ch ++ [_]).length ≤ _; simp; omega, by have := h.b.f; show (D.f ++ [_]).length ≤ _; simp; omega, h2.b.t⟩, h2.u⟩
theorem OkD.sync1_ {D : Dk} {n t : Nat} {k : List UInt8} (h : OkD D n t) : OkD (sync1 D k).1 n t := by
  unfold sync1
  split
  · exact h
  · rename_i i hi
    have hlt := (findN_lt h.w.good.f hi).1
    exact h.files (by rw [List.length_set]; exact Nat.le_refl _) (set_all h.w.lasts (Nat.le_refl _)) (set_all h.b.t (show (fileAt D.f i).1.length ≤ t from h.b.t _ (fileAt_mem hlt))) (by rw [List.length_set]; exact h.b.f) (Nat.le_refl _) fun e => by rw [h.w.neg e]; rfl
theorem OkD.rename1_ {D : Dk} {n t : Nat} {k u : List UInt8} (h : OkD D n t) : OkD (rename1 D k u).1 (n + 1) t := by
  unfold rename1
  split
  · exact h.mono (Nat.le_succ _) (Nat.le_refl _)
  · rename_i i hi
    split
    · exact h.mono (Nat.le_succ _) (Nat.le_refl _)
    · rename_i hf
      have hf : fileF u = true := by simpa using hf
      have hlt := findN_lt h.w.good.f hi
      have hm := findN_mem' hi
      have ha : applyN D.nm ⟨k, u, i⟩ = insN (u, i) (keepN ⟨k, u, i⟩ D.nm) := by unfold applyN; rw [if_neg (fileF_ne hf)]
      refine h.change (.inr ⟨hf, hlt.1, .inr hlt.2⟩) ?_ ?_
      · rw [ha, insN_length]
        have := keepN_lt (c := ⟨k, u, i⟩) hm
        have := h.w.nm64; omega
      · rw [ha]
        refine insN_nodup (keepN_nodup h.nmu) fun e he h3 => ?_
        have h4 := List.mem_filter.1 he
        have := same_of_nodup h.nmu h4.1 hm h3
        rw [this] at h4
        exact (of_decide_eq_true h4.2).1 rfl
theorem OkD.remove1_ {D : Dk} {n t : Nat} {k : List UInt8} (h : OkD D n t) : OkD (remove1 D k).1 (n + 1) t := by
  unfold remove1
  split
  · exact h.mono (Nat.le_succ _) (Nat.le_refl _)
  · rename_i i hi
    have hlt := findN_lt h.w.good.f hi
    have ha : applyN D.nm ⟨k, [], 0⟩ = keepN ⟨k, [], 0⟩ D.nm := by unfold applyN; rw [if_pos rfl]
    refine h.change (.inl ⟨rfl, hlt.2⟩) ?_ ?_
    · rw [ha]; have := keepN_lt (c := ⟨k, [], 0⟩) (findN_mem' hi); have := h.w.nm64; omega
    · rw [ha]; exact keepN_nodup h.nmu
theorem OkD.syncN1_ {D : Dk} {n t : Nat} (h : OkD D n t) : OkD (syncN1 D).1 n t := by
  have e : ∀ k, applyL (syncN1 D).1.last ((syncN1 D).1.ch.take k) = D.nm := fun k => by show applyL D.nm (List.take k []) = D.nm; rw [List.take_nil]; rfl
  exact ⟨⟨rfl, fun k => by rw [e]; exact h.w.nm64, h.w.good, fun c hc => (by cases hc), h.w.lasts, h.w.left, h.w.neg, h.w.rng, h.w.lrng⟩, ⟨Nat.zero_le _, h.b.f, h.b.t⟩, fun k => by rw [e]; exact h.nmu⟩
theorem OkD.onWrite_ {D : Dk} {n t n' t' : Nat} {k : Dk → Dk × Int} (h : OkD D n t) (hn : n ≤ n') (ht : t ≤ t') (hk : ∀ {D : Dk}, OkD D n t → OkD (k D).1 n' t') : OkD (onWrite D k).1 n' t' := by
  unfold onWrite
  split
  · exact hk h.write
  · exact h.write.mono hn ht
theorem OkD.append {D : Dk} {n t : Nat} {k s : List UInt8} (h : OkD D n t) : OkD (appendD D k s).1 (n + 1) (t + s.length) := h.onWrite_ (Nat.le_succ _) (Nat.le_add_right _ _) OkD.append1_
theorem OkD.sync {D : Dk} {n t : Nat} {k : List UInt8} (h : OkD D n t) : OkD (syncD D k).1 n t := h.onWrite_ (Nat.le_refl _) (Nat.le_refl _) OkD.sync1_
theorem OkD.rename {D : Dk} {n t : Nat} {k u : List UInt8} (h : OkD D n t) : OkD (renameD D k u).1 (n + 1) t := h.onWrite_ (Nat.le_succ _) (Nat.le_refl _) OkD.rename1_
theorem OkD.remove {D : Dk} {n t : Nat} {k : List UInt8} (h : OkD D n t) : OkD (removeD D k).1 (n + 1) t := h.onWrite_ (Nat.le_succ _) (Nat.le_refl _) OkD.remove1_
theorem OkD.syncNames {D : Dk} {n t : Nat} (h : OkD D n t) : OkD (syncNamesD D).1 n t := h.onWrite_ (Nat.le_refl _) (Nat.le_refl _) OkD.syncN1_
theorem crashF_ok {zs : List Int} {t : Nat} : ∀ (l : Nm) (j : Nat) (f : List (List UInt8 × Nat)), (∀ e ∈ l, e.2 < f.length) → (∀ x ∈ f, x.2 ≤ x.1.length) → (∀ x ∈ f, x.1.length ≤ t) → (∀ x ∈ crashF zs j l f, x.2 ≤ x.1.length) ∧ (∀ x ∈ crashF zs j l f, x.1.length ≤ t)
  | [], _, f, _, h1, h2 => ⟨h1, h2⟩
  | e :: l, j, f, hl, h1, h2 => by
    have := cut_ok (zs := zs) (j := j) (hl e (List.mem_cons_self ..)) h1 h2
    exact crashF_ok l (j + 1) _ (fun d hd => by rw [List.length_set]; exact hl d (List.mem_cons_of_mem _ hd)) this.1 this.2
theorem OkD.crash {D : Dk} {n t : Nat} {zs : List Int} (h : OkD D n t) : OkD (crashD D zs) n t := by
  have hg : GoodN (applyL D.last (D.ch.take (keptF zs 0 D.ch.length))) D.f.length := applyL_good h.w.last fun c hc => h.w.ch c (List.mem_of_mem_take hc)
  have hc := crashF_ok (zs := zs) (applyL D.last (D.ch.take (keptF zs 0 D.ch.length))) 1 D.f (fun e he => (hg.f e he).2) h.w.lasts h.b.t
  have e : ∀ k, applyL (crashD D zs).last ((crashD D zs).ch.take k) = applyL D.last (D.ch.take (keptF zs 0 D.ch.length)) := fun k => by show applyL _ (List.take k []) = _; rw [List.take_nil]; rfl
  have hl : (crashD D zs).f.length = D.f.length := crashF_len _ _ _
  exact ⟨⟨rfl, fun k => by rw [e]; exact h.w.few _, by rw [hl]; exact hg, fun c hc => (by cases hc), hc.1, Int.le_refl _, fun e => List.length_eq_zero_iff.1 (by rw [hl, h.w.neg e]; rfl), h.w.rng, by show (-1 : Int) ≤ _; omega⟩, ⟨Nat.zero_le _, by rw [hl]; exact h.b.f, hc.2⟩, fun k => by rw [e]; exact h.u _⟩
/-! How much is used. -/
end Go.Proofs.YtcehlnpbdffdhaaGreatDoor.SL

/- A disk as plain data: the fuse, the room, one file over another one. -/
namespace Go.Proofs.YtcehlnpbdffdhaaGreatDoor.SL
open Go.RowKit
set_option linter.unusedVariables false
set_option linter.unusedSimpArgs false
theorem OkD.used {D : Dk} {n t : Nat} (h : OkD D n t) : usedN D.f D.nm ≤ 64 * t := Nat.le_trans (usedN_le h.b _) (Nat.mul_le_mul_right _ h.w.nm64)
/-! The fuse. -/
/-! The room. -/
end Go.Proofs.YtcehlnpbdffdhaaGreatDoor.SL

/- A disk as plain data: one file over another one. -/
namespace Go.Proofs.YtcehlnpbdffdhaaGreatDoor.SL
open Go.RowKit
set_option linter.unusedVariables false
set_option linter.unusedSimpArgs false
end Go.Proofs.YtcehlnpbdffdhaaGreatDoor.SL
