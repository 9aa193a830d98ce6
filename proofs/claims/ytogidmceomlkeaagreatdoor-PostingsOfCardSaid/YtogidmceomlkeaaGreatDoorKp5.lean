/- Layer 14, lists of numbers, the plain laws: what is picked is what the reference says. -/
import Derived.Test.YtogidmceomlkeaaGreatDoorKp4
namespace Go.Proofs.YtogidmceomlkeaaGreatDoor.SL
open Go.Lib
set_option linter.unusedVariables false
abbrev Asc (l : List Int) : Prop := l.Pairwise (· < ·)
theorem asc_ext : ∀ {l m : List Int}, Asc l → Asc m → (∀ x, x ∈ l ↔ x ∈ m) → l = m
  | [], [], _, _, _ => rfl
  | [], y :: m, _, _, h => absurd ((h y).2 (List.mem_cons_self ..)) (by simp)
  | x :: l, [], _, _, h => absurd ((h x).1 (List.mem_cons_self ..)) (by simp)
  | x :: l, y :: m, hl, hm, h => by
    have hl' := List.pairwise_cons.1 hl
    have hm' := List.pairwise_cons.1 hm
    have hxy : x = y := by
      rcases List.mem_cons.1 ((h x).1 (List.mem_cons_self ..)) with e | e
      · exact e
      · rcases List.mem_cons.1 ((h y).2 (List.mem_cons_self ..)) with f | f
        · exact f.symm
        · have := hm'.1 _ e; have := hl'.1 _ f; omega
    subst hxy
    congr 1
    refine asc_ext hl'.2 hm'.2 fun z => ⟨fun hz => ?_, fun hz => ?_⟩
    · rcases List.mem_cons.1 ((h z).1 (List.mem_cons_of_mem _ hz)) with e | e
      · have := hl'.1 _ hz; omega
      · exact e
    · rcases List.mem_cons.1 ((h z).2 (List.mem_cons_of_mem _ hz)) with e | e
      · have := hm'.1 _ hz; omega
      · exact e
theorem mem_putF : ∀ (l : List Int) (n x : Int), x ∈ putF l n ↔ x = n ∨ x ∈ l
  | [], n, x => by simp [putF]
  | y :: l, n, x => by
    simp only [putF]
    split
    · rw [List.mem_cons, mem_putF l n x, List.mem_cons]
      constructor <;> rintro (h | h | h) <;> simp [h]
    · split
      · rename_i e; subst e
        simp
      · simp
theorem putF_asc : ∀ {l : List Int} (n : Int), Asc l → Asc (putF l n)
  | [], n, _ => by simp [putF]
  | y :: l, n, h => by
    have h' := List.pairwise_cons.1 h
    simp only [putF]
    split
    · refine List.pairwise_cons.2 ⟨fun z hz => ?_, putF_asc n h'.2⟩
      rcases (mem_putF l n z).1 hz with e | e
      · omega
      · exact h'.1 z e
    · split
      · exact h
      · refine List.pairwise_cons.2 ⟨fun z hz => ?_, h⟩
        rcases List.mem_cons.1 hz with e | e
        · omega
        · have := h'.1 z e; omega
theorem foldput {c : Int → Prop} [DecidablePred c] : ∀ (l o : List Int), Asc o → Asc (l.foldl (fun o x => if c x then putF o x else o) o) ∧ ∀ x, x ∈ l.foldl (fun o x => if c x then putF o x else o) o ↔ x ∈ o ∨ (x ∈ l ∧ c x)
  | [], o, h => ⟨h, fun x => by simp⟩
  | y :: l, o, h => by
    simp only [List.foldl_cons]
    by_cases hc : c y
    · simp only [if_pos hc]
      obtain ⟨h1, h2⟩ := foldput (c := c) l (putF o y) (putF_asc y h)
      refine ⟨h1, fun x => ?_⟩
      rw [h2, mem_putF, List.mem_cons]
      constructor
      · rintro ((rfl | h) | h)
        · exact .inr ⟨.inl rfl, hc⟩
        · exact .inl h
        · exact .inr ⟨.inr h.1, h.2⟩
      · rintro (h | ⟨rfl | h, h'⟩)
        · exact .inl (.inr h)
        · exact .inl (.inl rfl)
        · exact .inr ⟨h, h'⟩
    · simp only [if_neg hc]
      obtain ⟨h1, h2⟩ := foldput (c := c) l o h
      refine ⟨h1, fun x => ?_⟩
      rw [h2, List.mem_cons]
      constructor
      · rintro (h | h)
        · exact .inl h
        · exact .inr ⟨.inr h.1, h.2⟩
      · rintro (h | ⟨rfl | h, h'⟩)
        · exact .inl h
        · exact absurd h' hc
        · exact .inr ⟨h, h'⟩
theorem andR_spec (m l : List Int) : Asc (andR m l) ∧ ∀ x, x ∈ andR m l ↔ x ∈ l ∧ x ∈ m := by
  have := foldput (c := (· ∈ m)) l [] List.Pairwise.nil
  exact ⟨this.1, fun x => by rw [andR]; simpa using this.2 x⟩
theorem lessR_spec (m l : List Int) : Asc (lessR m l) ∧ ∀ x, x ∈ lessR m l ↔ x ∈ l ∧ x ∉ m := by
  have := foldput (c := (· ∉ m)) l [] List.Pairwise.nil
  have e : lessR m l = l.foldl (fun o x => if x ∉ m then putF o x else o) [] := by
    unfold lessR; congr 1; funext o x; by_cases h : x ∈ m <;> simp [h]
  rw [e]
  exact ⟨this.1, fun x => by simpa using this.2 x⟩
theorem orR_spec (o l : List Int) (h : Asc o) : Asc (orR o l) ∧ ∀ x, x ∈ orR o l ↔ x ∈ o ∨ x ∈ l := by
  have := foldput (c := fun _ => True) l o h
  have e : orR o l = l.foldl (fun o x => if True then putF o x else o) o := by
    unfold orR; simp only [if_true]
  rw [e]
  exact ⟨this.1, fun x => by simpa using this.2 x⟩
theorem cpt_upto {d : Array Int} (hd : ∀ i j, i ≤ j → j < d.size → d[i]! ≤ d[j]!) : ∀ m, m ≤ d.size → Asc (compactUpTo d m) ∧ ∀ z, z ∈ compactUpTo d m ↔ ∃ j, j < m ∧ d[j]! = z
  | 0, _ => by simp [compactUpTo]
  | m + 1, hm => by
    obtain ⟨h1, h2⟩ := cpt_upto hd m (by omega)
    rw [compactUpTo_succ]
    by_cases hk : keeps d m = true
    · rw [if_pos hk]
      refine ⟨List.pairwise_append.2 ⟨h1, by simp, fun a ha b hb => ?_⟩, fun z => ?_⟩
      · simp only [List.mem_singleton] at hb
        subst hb
        obtain ⟨j, hj, rfl⟩ := (h2 a).1 ha
        have e1 := hd j (m - 1) (by omega) (by omega)
        have e2 := hd (m - 1) m (by omega) (by omega)
        simp only [keeps, decide_eq_true_eq] at hk
        rcases hk with hk | hk
        · omega
        · omega
      · rw [List.mem_append, h2, List.mem_singleton]
        constructor
        · rintro (⟨j, hj, e⟩ | rfl)
          · exact ⟨j, by omega, e⟩
          · exact ⟨m, by omega, rfl⟩
        · rintro ⟨j, hj, e⟩
          rcases Nat.lt_or_ge j m with c | c
          · exact .inl ⟨j, c, e⟩
          · have : j = m := by omega
            subst this; exact .inr e.symm
    · rw [if_neg hk, List.append_nil]
      refine ⟨h1, fun z => ?_⟩
      rw [h2]
      simp only [keeps, decide_eq_true_eq, not_or, Decidable.not_not] at hk
      constructor
      · rintro ⟨j, hj, e⟩; exact ⟨j, by omega, e⟩
      · rintro ⟨j, hj, e⟩
        rcases Nat.lt_or_ge j m with c | c
        · exact ⟨j, c, e⟩
        · have : j = m := by omega
          subst this
          exact ⟨j - 1, by omega, by rw [← hk.2]; exact e⟩
theorem rising_spec' (l : List Int) : Asc (rising l) ∧ ∀ x, x ∈ rising l ↔ x ∈ l := by
  have hs : (srt l).Pairwise fun x y => decide (x ≤ y) = true := List.pairwise_mergeSort (fun a b c h1 h2 => by simp at *; omega) (fun a b => by simp; omega) l
  have hd : ∀ i j, i ≤ j → j < (srt l).toArray.size → (srt l).toArray[i]! ≤ (srt l).toArray[j]! := by
    intro i j hij hj
    have hj' : j < (srt l).length := by simpa using hj
    have ei : (srt l).toArray[i]! = (srt l)[i]'(by omega) := by simp [show i < (srt l).length by omega]
    have ej : (srt l).toArray[j]! = (srt l)[j] := by simp [hj']
    rw [ei, ej]
    rcases Nat.lt_or_ge i j with c | c
    · simpa using List.pairwise_iff_getElem.1 hs i j (by omega) hj' c
    · have : i = j := by omega
      subst this; exact Int.le_refl _
  obtain ⟨h1, h2⟩ := cpt_upto hd (srt l).length (by simp)
  refine ⟨h1, fun x => ?_⟩
  show x ∈ compactUpTo (srt l).toArray (srt l).length ↔ _
  rw [h2]
  have hm : x ∈ srt l ↔ x ∈ l := List.mem_mergeSort
  rw [← hm]
  rw [List.mem_iff_getElem]
  constructor
  · rintro ⟨j, hj, e⟩; exact ⟨j, hj, by rw [← e]; simp [hj]⟩
  · rintro ⟨j, hj, e⟩; exact ⟨j, hj, by rw [← e]; simp [hj]⟩
/-- What a step takes. -/
theorem step_facts {xs ys : List Int} (hx : Asc xs) (hy : Asc ys) (hne : ¬ (xs = [] ∧ ys = [])) :
    (∀ z, z ∈ xs ↔ (inB xs ys = true ∧ z = hd1 (inB ys xs) ys (hd1 (inB xs ys) xs 0)) ∨ z ∈ tl (inB xs ys) xs) ∧ (∀ z, z ∈ tl (inB xs ys) xs → hd1 (inB ys xs) ys (hd1 (inB xs ys) xs 0) < z) ∧
    (∀ z, z ∈ ys ↔ (inB ys xs = true ∧ z = hd1 (inB ys xs) ys (hd1 (inB xs ys) xs 0)) ∨ z ∈ tl (inB ys xs) ys) ∧ (∀ z, z ∈ tl (inB ys xs) ys → hd1 (inB ys xs) ys (hd1 (inB xs ys) xs 0) < z) ∧ Asc (tl (inB xs ys) xs) ∧ Asc (tl (inB ys xs) ys) := by
  cases xs with
  | nil => cases ys with
    | nil => simp at hne
    | cons y ys =>
      have hy' := List.pairwise_cons.1 hy
      simp [inB, tl, hd1]
      exact ⟨hy'.1, hy'.2⟩
  | cons x xs => cases ys with
    | nil =>
      have hx' := List.pairwise_cons.1 hx
      simp [inB, tl, hd1]
      exact ⟨hx'.1, hx'.2⟩
    | cons y ys =>
      have hx' := List.pairwise_cons.1 hx
      have hy' := List.pairwise_cons.1 hy
      rcases Int.lt_trichotomy x y with c | c | c
      · have e1 : inB (x :: xs) (y :: ys) = true := by simp [inB]; omega
        have e2 : inB (y :: ys) (x :: xs) = false := by simp [inB]; omega
        rw [e1, e2]
        simp only [tl, hd1, if_true, if_false, Bool.false_eq_true, List.tail_cons, List.headD_cons]
        refine ⟨fun z => by simp, hx'.1, fun z => by simp, fun z hz => ?_, hx'.2, hy⟩
        rcases List.mem_cons.1 hz with e | e
        · omega
        · have := hy'.1 z e; omega
      · subst c
        have e1 : inB (x :: xs) (x :: ys) = true := by simp [inB]
        have e2 : inB (x :: ys) (x :: xs) = true := by simp [inB]
        rw [e1, e2]
        simp only [tl, hd1, if_true, List.tail_cons, List.headD_cons]
        exact ⟨fun z => by simp, hx'.1, fun z => by simp, hy'.1, hx'.2, hy'.2⟩
      · have e1 : inB (x :: xs) (y :: ys) = false := by simp [inB]; omega
        have e2 : inB (y :: ys) (x :: xs) = true := by simp [inB]; omega
        rw [e1, e2]
        simp only [tl, hd1, if_true, if_false, Bool.false_eq_true, List.tail_cons, List.headD_cons]
        refine ⟨fun z => by simp, fun z hz => ?_, fun z => by simp, hy'.1, hx, hy'.2⟩
        rcases List.mem_cons.1 hz with e | e
        · omega
        · have := hx'.1 z e; omega
theorem pkF_spec (F : Bool → Bool → Bool) : ∀ (k : Nat) (xs ys : List Int), Asc xs → Asc ys → xs.length + ys.length ≤ k →
    Asc (pkF F k xs ys) ∧ ∀ z, z ∈ pkF F k xs ys ↔ (z ∈ xs ∨ z ∈ ys) ∧ F (decide (z ∈ xs)) (decide (z ∈ ys)) = true
  | 0, xs, ys, _, _, h => by
    have hx : xs = [] := List.length_eq_zero_iff.1 (by omega)
    have hy : ys = [] := List.length_eq_zero_iff.1 (by omega)
    subst hx; subst hy
    simp [pkF]
  | k + 1, xs, ys, hx, hy, h => by
    by_cases hne : xs = [] ∧ ys = []
    · simp [pkF, hne]
    · have hpos : 0 < xs.length ∨ 0 < ys.length := by
        rcases Nat.eq_zero_or_pos xs.length with c | c
        · rcases Nat.eq_zero_or_pos ys.length with d | d
          · exact absurd ⟨List.length_eq_zero_iff.1 c, List.length_eq_zero_iff.1 d⟩ hne
          · exact .inr d
        · exact .inl c
      have hl := pk_len (k := k) rfl rfl hpos h
      have hor := inB_or hpos
      obtain ⟨s1, s2, s3, s4, s5, s6⟩ := step_facts hx hy hne
      obtain ⟨i1, i2⟩ := pkF_spec F k _ _ s5 s6 hl
      simp only [pkF, if_neg hne]
      generalize hn : hd1 (inB ys xs) ys (hd1 (inB xs ys) xs 0) = n at s1 s2 s3 s4 ⊢
      generalize hp : inB xs ys = p at s1 s2 s3 s4 s5 s6 i1 i2 hor ⊢
      generalize hq : inB ys xs = q at s1 s2 s3 s4 s5 s6 i1 i2 hor ⊢
      generalize tl p xs = xs' at s1 s2 s3 s4 s5 s6 i1 i2 ⊢
      generalize tl q ys = ys' at s1 s2 s3 s4 s5 s6 i1 i2 ⊢
      have big : ∀ z, z ∈ pkF F k xs' ys' → n < z := fun z hz => by
        rcases ((i2 z).1 hz).1 with e | e
        · exact s2 z e
        · exact s4 z e
      have hnx : decide (n ∈ xs) = p := by
        have : n ∈ xs ↔ p = true := by
          rw [s1]
          constructor
          · rintro (e | e)
            · exact e.1
            · have := s2 n e; omega
          · intro e; exact .inl ⟨e, rfl⟩
        cases p <;> simp_all
      have hny : decide (n ∈ ys) = q := by
        have : n ∈ ys ↔ q = true := by
          rw [s3]
          constructor
          · rintro (e | e)
            · exact e.1
            · have := s4 n e; omega
          · intro e; exact .inl ⟨e, rfl⟩
        cases q <;> simp_all
      refine ⟨List.pairwise_append.2 ⟨by split <;> simp, i1, fun a ha b hb => ?_⟩, fun z => ?_⟩
      · split at ha
        · simp only [List.mem_singleton] at ha; subst ha; exact big b hb
        · cases ha
      · by_cases hz : z = n
        · subst hz
          have hno : z ∉ pkF F k xs' ys' := fun e => by have := big z e; omega
          rw [List.mem_append, hnx, hny]
          have hin : z ∈ xs ∨ z ∈ ys := by
            rcases hor with e | e
            · exact .inl ((s1 z).2 (.inl ⟨e, rfl⟩))
            · exact .inr ((s3 z).2 (.inl ⟨e, rfl⟩))
          constructor
          · rintro (e | e)
            · split at e
              · exact ⟨hin, by assumption⟩
              · cases e
            · exact absurd e hno
          · rintro ⟨_, e⟩; rw [if_pos e]; exact .inl (List.mem_singleton.2 rfl)
        · have ex : z ∈ xs ↔ z ∈ xs' := (s1 z).trans ⟨fun e => e.elim (fun e => absurd e.2 hz) id, .inr⟩
          have ey : z ∈ ys ↔ z ∈ ys' := (s3 z).trans ⟨fun e => e.elim (fun e => absurd e.2 hz) id, .inr⟩
          have h0 : z ∉ (if F p q = true then [n] else []) := by split <;> simp [hz]
          have d1 : decide (z ∈ xs) = decide (z ∈ xs') := decide_eq_decide.2 ex
          have d2 : decide (z ∈ ys) = decide (z ∈ ys') := decide_eq_decide.2 ey
          rw [List.mem_append, i2, d1, d2, or_congr ex ey]
          simp only [h0, false_or]
theorem pickF_spec (F : Bool → Bool → Bool) (l m : List Int) : Asc (pickF F l m) ∧ ∀ z, z ∈ pickF F l m ↔ (z ∈ l ∨ z ∈ m) ∧ F (decide (z ∈ l)) (decide (z ∈ m)) = true := by
  obtain ⟨a1, a2⟩ := rising_spec' l
  obtain ⟨b1, b2⟩ := rising_spec' m
  obtain ⟨h1, h2⟩ := pkF_spec F _ _ _ a1 b1 (Nat.le_refl _)
  refine ⟨h1, fun z => ?_⟩
  show z ∈ pkF F _ _ _ ↔ _
  have d1 : decide (z ∈ rising l) = decide (z ∈ l) := decide_eq_decide.2 (a2 z)
  have d2 : decide (z ∈ rising m) = decide (z ∈ m) := decide_eq_decide.2 (b2 z)
  rw [h2, d1, d2, or_congr (a2 z) (b2 z)]
theorem pick_and (l m : List Int) : pickF fAnd l m = andR m l := by
  obtain ⟨h1, h2⟩ := pickF_spec fAnd l m
  obtain ⟨k1, k2⟩ := andR_spec m l
  refine asc_ext h1 k1 fun z => ?_
  rw [h2, k2]; simp only [fAnd, Bool.and_eq_true, decide_eq_true_eq]
  exact ⟨fun h => h.2, fun h => ⟨.inl h.1, h⟩⟩
theorem pick_less (l m : List Int) : pickF fLess l m = lessR m l := by
  obtain ⟨h1, h2⟩ := pickF_spec fLess l m
  obtain ⟨k1, k2⟩ := lessR_spec m l
  refine asc_ext h1 k1 fun z => ?_
  rw [h2, k2]; simp only [fLess, Bool.not_eq_true', decide_eq_false_iff_not]
  exact ⟨fun h => ⟨h.1.resolve_right h.2, h.2⟩, fun h => ⟨.inl h.1, h.2⟩⟩
theorem pick_or (l m : List Int) : pickF fOr l m = orR (orR [] l) m := by
  obtain ⟨h1, h2⟩ := pickF_spec fOr l m
  obtain ⟨j1, j2⟩ := orR_spec [] l List.Pairwise.nil
  obtain ⟨k1, k2⟩ := orR_spec (orR [] l) m j1
  refine asc_ext h1 k1 fun z => ?_
  rw [h2, k2, j2]; simp [fOr]
end Go.Proofs.YtogidmceomlkeaaGreatDoor.SL
