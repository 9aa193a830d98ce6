/- A disk as plain data: files, names, names that last, changes since; what each operation does. -/
import Derived.Test.YtiggkfaonnnjoaaGreatDoorKk2
import Derived.Test.YtiggkfaonnnjoaaGreatDoorKx
namespace Go.Proofs.YtiggkfaonnnjoaaGreatDoor.SL
open Go.RowKit
set_option linter.unusedVariables false
set_option linter.unusedSimpArgs false
structure Chg where
  fr : List UInt8
  tn : List UInt8
  fi : Nat
deriving DecidableEq
abbrev Nm := List (List UInt8 × Nat)
structure Dk where
  room : Int
  f : List (List UInt8 × Nat)
  nm : Nm
  last : Nm
  ch : List Chg
  dead : Bool
  left : Int
def findN (k : List UInt8) : Nm → Option Nat
  | [] => none
  | e :: l => if k = e.1 then some e.2 else findN k l
def insN (x : List UInt8 × Nat) : Nm → Nm
  | [] => [x]
  | y :: l => if strLt y.1 x.1 = true then y :: insN x l else x :: y :: l
def keepN (c : Chg) (l : Nm) : Nm := l.filter fun e => decide (¬ e.1 = c.fr ∧ ¬ e.1 = c.tn)
def applyN (l : Nm) (c : Chg) : Nm := if c.tn = [] then keepN c l else insN (c.tn, c.fi) (keepN c l)
def applyL (l : Nm) (cs : List Chg) : Nm := cs.foldl applyN l
def fileAt (f : List (List UInt8 × Nat)) (i : Nat) : List UInt8 × Nat := f.getD i ([], 0)
def usedN (f : List (List UInt8 × Nat)) (l : Nm) : Nat := (l.map fun e => (fileAt f e.2).1.length).sum
def writeD (D : Dk) : Dk × Bool := if D.left = 0 then ({ D with dead := true }, false) else if D.dead = true then (D, false) else ({ D with left := if -1 > D.left - 1 then -1 else D.left - 1 }, true)
def changeD (D : Dk) (c : Chg) : Dk := { D with nm := applyN D.nm c, ch := D.ch ++ [c] }
def addTo (f : List (List UInt8 × Nat)) (i : Nat) (s : List UInt8) : List (List UInt8 × Nat) := f.set i ((fileAt f i).1 ++ s, (fileAt f i).2)
/-- Behind a write that goes. -/
def append1 (D : Dk) (k s : List UInt8) : Dk × Int :=
  if fileF k = false then (D, 3) else if D.room - usedN D.f D.nm < s.length ∨ (findN k D.nm = none ∧ D.nm.length = 64) then (D, 4)
  else match findN k D.nm with
    | some i => ({ D with f := addTo D.f i s }, 0)
    | none => ({ changeD { D with f := D.f ++ [([], 0)] } ⟨[], k, D.f.length⟩ with f := D.f ++ [(s, 0)] }, 0)
def sync1 (D : Dk) (k : List UInt8) : Dk × Int := match findN k D.nm with
  | none => (D, 12)
  | some i => ({ D with f := D.f.set i ((fileAt D.f i).1, (fileAt D.f i).1.length) }, 0)
def rename1 (D : Dk) (k t : List UInt8) : Dk × Int := match findN k D.nm with
  | none => (D, 12)
  | some i => if fileF t = false then (D, 3) else (changeD D ⟨k, t, i⟩, 0)
def remove1 (D : Dk) (k : List UInt8) : Dk × Int := match findN k D.nm with
  | none => (D, 12)
  | some i => (changeD D ⟨k, [], 0⟩, 0)
def syncN1 (D : Dk) : Dk × Int := ({ D with last := D.nm, ch := [] }, 0)
def onWrite (D : Dk) (k : Dk → Dk × Int) : Dk × Int := if (writeD D).2 = true then k (writeD D).1 else ((writeD D).1, 11)
def appendD (D : Dk) (k s : List UInt8) : Dk × Int := onWrite D fun D => append1 D k s
def syncD (D : Dk) (k : List UInt8) : Dk × Int := onWrite D fun D => sync1 D k
def renameD (D : Dk) (k t : List UInt8) : Dk × Int := onWrite D fun D => rename1 D k t
def removeD (D : Dk) (k : List UInt8) : Dk × Int := onWrite D fun D => remove1 D k
def syncNamesD (D : Dk) : Dk × Int := onWrite D syncN1
def readD (D : Dk) (k : List UInt8) : List UInt8 × Int := if D.dead = true then ([], 11) else match findN k D.nm with
  | none => ([], 12)
  | some i => ((fileAt D.f i).1, 0)
def namesD (D : Dk) : List (List UInt8) := if D.dead = true then [] else D.nm.map (·.1)
def fuseD (D : Dk) (n : Int) : Dk := if D.dead = true then D else { D with left := if -1 > n then -1 else n }
def newD (room : Int) : Dk := ⟨room, [], [], [], [], false, -1⟩
def keptF (keep : List Int) (i n : Nat) : Nat := match keep[i]? with
  | none => 0
  | some x => ((x % 18446744073709551616) % ((n : Int) + 1)).toNat
def cutF (keep : List Int) (i : Nat) (x : List UInt8 × Nat) : List UInt8 × Nat :=
  (x.1.take (x.2 + keptF keep i (x.1.length - x.2)), x.2 + keptF keep i (x.1.length - x.2))
def crashF (keep : List Int) : Nat → Nm → List (List UInt8 × Nat) → List (List UInt8 × Nat)
  | _, [], f => f
  | i, e :: l, f => crashF keep (i + 1) l (f.set e.2 (cutF keep i (fileAt f e.2)))
def crashD (D : Dk) (keep : List Int) : Dk :=
  ⟨D.room, crashF keep 1 (applyL D.last (D.ch.take (keptF keep 0 D.ch.length))) D.f, applyL D.last (D.ch.take (keptF keep 0 D.ch.length)), applyL D.last (D.ch.take (keptF keep 0 D.ch.length)), [], false, -1⟩
/-! Order and names. -/
def SortedN (l : Nm) : Prop := l.Pairwise fun a b => strLt a.1 b.1 = true
structure GoodN (l : Nm) (n : Nat) : Prop where
  s : SortedN l
  f : ∀ e ∈ l, fileF e.1 = true ∧ e.2 < n
theorem lt_irr (a : List UInt8) : strLt a a = false := by rw [strLt_iff]; simp [List.lt_irrefl]
theorem lt_tr {a b c : List UInt8} (h : strLt a b = true) (k : strLt b c = true) : strLt a c = true := by
  rw [strLt_iff] at *; simp only [decide_eq_true_eq] at *; exact List.lt_trans h k
theorem lt_tot {a b : List UInt8} (h : strLt a b = false) (hne : ¬ a = b) : strLt b a = true := by
  rw [strLt_iff] at *
  simp only [decide_eq_true_eq, decide_eq_false_iff_not] at *
  have h1 : b ≤ a := List.not_lt.1 h
  rcases List.le_iff_lt_or_eq.1 h1 with h2 | h2
  · exact h2
  · exact absurd h2.symm hne
theorem fileF_ne {k : List UInt8} (h : fileF k = true) : k ≠ [] := (of_decide_eq_true h).1
theorem fileF_len {k : List UInt8} (h : fileF k = true) : k.length ≤ 32 := (of_decide_eq_true h).2.1
theorem SortedN.nodup {l : Nm} (h : SortedN l) : (l.map (·.1)).Nodup := by
  refine List.pairwise_map.2 (h.imp fun {a b} h e => ?_)
  rw [e, lt_irr] at h; cases h
theorem keepN_sorted {l : Nm} (h : SortedN l) (c : Chg) : SortedN (keepN c l) := List.Pairwise.filter _ h
theorem mem_insN {x y : List UInt8 × Nat} : ∀ {l : Nm}, y ∈ insN x l ↔ y = x ∨ y ∈ l
  | [] => by simp [insN]
  | z :: l => by
    unfold insN
    split
    · rw [List.mem_cons, mem_insN, List.mem_cons]
      constructor
      · rintro (h | h | h); exact .inr (.inl h); exact .inl h; exact .inr (.inr h)
      · rintro (h | h | h); exact .inr (.inl h); exact .inl h; exact .inr (.inr h)
    · rw [List.mem_cons]
theorem insN_sorted {x : List UInt8 × Nat} : ∀ {l : Nm}, SortedN l → (∀ e ∈ l, ¬ e.1 = x.1) → SortedN (insN x l)
  | [], _, _ => List.pairwise_singleton _ _
  | z :: l, h, hn => by
    have hz := List.pairwise_cons.1 h
    unfold insN
    split
    · rename_i hlt
      refine List.pairwise_cons.2 ⟨fun e he => ?_, insN_sorted hz.2 fun e he => hn e (List.mem_cons_of_mem _ he)⟩
      rcases mem_insN.1 he with rfl | he
      · exact hlt
      · exact hz.1 e he
    · rename_i hlt
      have hxz := lt_tot (Bool.eq_false_iff.2 hlt) (hn z (List.mem_cons_self ..))
      refine List.pairwise_cons.2 ⟨fun e he => ?_, h⟩
      rcases List.mem_cons.1 he with rfl | he
      · exact hxz
      · exact lt_tr hxz (hz.1 e he)
theorem insN_perm {x : List UInt8 × Nat} : ∀ {l : Nm}, (insN x l).Perm (l ++ [x])
  | [] => List.Perm.refl _
  | z :: l => by
    unfold insN
    split
    · exact (insN_perm (l := l)).cons z
    · exact (List.perm_append_comm (l₁ := [x]) (l₂ := z :: l))
theorem insN_length {x : List UInt8 × Nat} {l : Nm} : (insN x l).length = l.length + 1 := by rw [insN_perm.length_eq]; simp
def OkC (n : Nat) (c : Chg) : Prop := (c.tn = [] ∧ fileF c.fr = true) ∨ (fileF c.tn = true ∧ c.fi < n ∧ (c.fr = [] ∨ fileF c.fr = true))
theorem applyN_good {l : Nm} {n : Nat} {c : Chg} (h : GoodN l n) (hc : OkC n c) : GoodN (applyN l c) n := by
  have hk : GoodN (keepN c l) n := ⟨keepN_sorted h.s c, fun e he => h.f e (mem_of_filter he)⟩
  unfold applyN
  split
  · exact hk
  · rename_i ht
    rcases hc with hc | ⟨hc, hi, _⟩
    · exact absurd hc.1 ht
    · refine ⟨insN_sorted hk.s fun e he => ?_, fun e he => ?_⟩
      · exact (of_decide_eq_true (List.mem_filter.1 he).2).2
      · rcases mem_insN.1 he with rfl | he
        · exact ⟨hc, hi⟩
        · exact hk.f e he
theorem applyL_good {n : Nat} : ∀ {cs : List Chg} {l : Nm}, GoodN l n → (∀ c ∈ cs, OkC n c) → GoodN (applyL l cs) n
  | [], _, h, _ => h
  | c :: cs, l, h, hc => applyL_good (cs := cs) (applyN_good h (hc c (List.mem_cons_self ..))) fun d hd => hc d (List.mem_cons_of_mem _ hd)
theorem applyL_snoc (l : Nm) (cs : List Chg) (c : Chg) : applyL l (cs ++ [c]) = applyN (applyL l cs) c := by unfold applyL; rw [List.foldl_append]; rfl
theorem GoodN.mono {l : Nm} {n m : Nat} (h : GoodN l n) (hm : n ≤ m) : GoodN l m := ⟨h.s, fun e he => ⟨(h.f e he).1, by have := (h.f e he).2; omega⟩⟩
theorem OkC.mono {n m : Nat} {c : Chg} (h : OkC n c) (hm : n ≤ m) : OkC m c := by
  rcases h with h | ⟨h1, h2, h3⟩
  · exact .inl h
  · exact .inr ⟨h1, by omega, h3⟩
/-- What always holds of a disk. -/
structure WFD (D : Dk) : Prop where
  nm : D.nm = applyL D.last D.ch
  few : ∀ k, (applyL D.last (D.ch.take k)).length ≤ 64
  last : GoodN D.last D.f.length
  ch : ∀ c ∈ D.ch, OkC D.f.length c
  lasts : ∀ x ∈ D.f, x.2 ≤ x.1.length
  left : -1 ≤ D.left
  neg : D.room < 0 → D.f = []
  rng : -9223372036854775808 ≤ D.room ∧ D.room ≤ 9223372036854775807
  lrng : D.left ≤ 9223372036854775807
theorem WFD.good {D : Dk} (h : WFD D) : GoodN D.nm D.f.length := by rw [h.nm]; exact applyL_good h.last h.ch
theorem WFD.nm64 {D : Dk} (h : WFD D) : D.nm.length ≤ 64 := by have := h.few D.ch.length; rw [List.take_length] at this; rw [h.nm]; exact this
/-- How great a disk is. -/
structure Bnd (D : Dk) (n t : Nat) : Prop where
  ch : D.ch.length ≤ n
  f : D.f.length ≤ n
  t : ∀ x ∈ D.f, x.1.length ≤ t
theorem Bnd.mono {D : Dk} {n t n' t' : Nat} (h : Bnd D n t) (hn : n ≤ n') (ht : t ≤ t') : Bnd D n' t' := ⟨Nat.le_trans h.ch hn, Nat.le_trans h.f hn, fun x hx => Nat.le_trans (h.t x hx) ht⟩
theorem fileAt_mem {f : List (List UInt8 × Nat)} {i : Nat} (h : i < f.length) : fileAt f i ∈ f := by
  unfold fileAt
  rw [List.getD_eq_getElem?_getD, List.getElem?_eq_getElem h]
  exact List.getElem_mem h
theorem fileAt_get {f : List (List UInt8 × Nat)} {i : Nat} (h : i < f.length) : f[i]? = some (fileAt f i) := by
  unfold fileAt
  rw [List.getD_eq_getElem?_getD, List.getElem?_eq_getElem h]; rfl
theorem usedN_le {D : Dk} {n t : Nat} (h : Bnd D n t) : ∀ l : Nm, usedN D.f l ≤ l.length * t
  | [] => by simp [usedN]
  | e :: l => by
    have ih := usedN_le h l
    have : (fileAt D.f e.2).1.length ≤ t := by
      rcases Nat.lt_or_ge e.2 D.f.length with hi | hi
      · exact h.t _ (fileAt_mem hi)
      · have : fileAt D.f e.2 = ([], 0) := by unfold fileAt; rw [List.getD_eq_getElem?_getD, List.getElem?_eq_none hi]; rfl
        rw [this]; exact Nat.zero_le _
    unfold usedN at ih ⊢
    rw [List.map_cons, List.sum_cons, List.length_cons, Nat.add_mul]; omega
/-! The program's maps. -/
def ptrV (g : Nat) : Value := .pointer (some ⟨g, 0, none⟩)
def esOf (gs : List Nat) (l : Nm) : List (List UInt8 × Value) := l.map fun e => (e.1, ptrV (gs.getD e.2 0))
theorem esOf_keys (gs : List Nat) (l : Nm) : (esOf gs l).map (·.1) = l.map (·.1) := by unfold esOf; rw [List.map_map]; rfl
theorem getS_none {k : List UInt8} : ∀ {es : List (List UInt8 × Value)}, k ∉ es.map (·.1) → getS es k = none
  | [], _ => rfl
  | (q, v) :: l, h => by
    unfold getS
    rw [if_neg (fun e => h (by simp [e])), getS_none (fun e => h (by simp at e ⊢; exact .inr e))]
theorem getS_some {k : List UInt8} {v : Value} : ∀ {es : List (List UInt8 × Value)}, (es.map (·.1)).Nodup → (k, v) ∈ es → getS es k = some v
  | (q, u) :: l, hn, h => by
    rw [List.map_cons, List.nodup_cons] at hn
    unfold getS
    rcases List.mem_cons.1 h with e | h
    · cases e; rw [if_pos rfl]
    · rw [if_neg (fun e : k = q => hn.1 (List.mem_map.2 ⟨(k, v), h, e⟩)), getS_some hn.2 h]
theorem getS_perm {es es' : List (List UInt8 × Value)} (hp : es.Perm es') (hn : (es'.map (·.1)).Nodup) (k : List UInt8) : getS es k = getS es' k := by
  have hn2 : (es.map (·.1)).Nodup := (hp.map _).nodup_iff.2 hn
  by_cases h : k ∈ es'.map (·.1)
  · obtain ⟨⟨q, v⟩, hq, rfl⟩ := List.mem_map.1 h
    rw [getS_some hn hq, getS_some hn2 (hp.mem_iff.2 hq)]
  · rw [getS_none h, getS_none (fun h2 => h ((hp.map _).mem_iff.1 h2))]
theorem getS_esOf (gs : List Nat) (k : List UInt8) : ∀ l : Nm, getS (esOf gs l) k = (findN k l).map fun i => ptrV (gs.getD i 0)
  | [] => rfl
  | e :: l => by
    show (if k = e.1 then some (ptrV (gs.getD e.2 0)) else getS (esOf gs l) k) = _
    unfold findN
    split
    · rfl
    · exact getS_esOf gs k l
theorem delS_filter {k : List UInt8} : ∀ {es : List (List UInt8 × Value)}, (es.map (·.1)).Nodup → delS es k = es.filter fun p => decide (¬ p.1 = k)
  | [], _ => rfl
  | (q, v) :: l, hn => by
    rw [List.map_cons, List.nodup_cons] at hn
    unfold delS
    split
    · rename_i e
      subst e
      rw [List.filter_cons, if_neg (by simp)]
      refine (List.filter_eq_self.2 fun p hp => ?_).symm
      have : ¬ p.1 = k := fun e => hn.1 (e ▸ List.mem_map.2 ⟨p, hp, rfl⟩)
      simpa using this
    · rename_i e
      rw [List.filter_cons, if_pos (by simpa using fun h : q = k => e h.symm), delS_filter hn.2]
theorem putS_perm {k : List UInt8} {v : Value} : ∀ {es : List (List UInt8 × Value)}, (es.map (·.1)).Nodup → (putS es k v).Perm ((es.filter fun p => decide (¬ p.1 = k)) ++ [(k, v)])
  | [], _ => List.Perm.refl _
  | (q, u) :: l, hn => by
    rw [List.map_cons, List.nodup_cons] at hn
    unfold putS
    split
    · rename_i e
      subst e
      rw [List.filter_cons, if_neg (by simp)]
      have : l.filter (fun p => decide (¬ p.1 = k)) = l := List.filter_eq_self.2 fun p hp => by
        have : ¬ p.1 = k := fun e => hn.1 (e ▸ List.mem_map.2 ⟨p, hp, rfl⟩)
        simpa using this
      rw [this]
      exact (List.perm_append_comm (l₁ := [(k, v)]) (l₂ := l))
    · rename_i e
      rw [List.filter_cons, if_pos (by simpa using fun h : q = k => e h.symm)]
      exact (putS_perm hn.2).cons _
/-- What a change does to a map. -/
def applyE (gs : List Nat) (es : List (List UInt8 × Value)) (c : Chg) : List (List UInt8 × Value) :=
  if c.tn = [] then delS es c.fr else if c.fr = [] then putS es c.tn (ptrV (gs.getD c.fi 0)) else putS (delS es c.fr) c.tn (ptrV (gs.getD c.fi 0))
theorem filter_esOf (gs : List Nat) (p : List UInt8 → Bool) : ∀ l : Nm, (esOf gs l).filter (fun e => p e.1) = esOf gs (l.filter fun e => p e.1)
  | [] => rfl
  | e :: l => by
    have ih := filter_esOf gs p l
    unfold esOf at ih ⊢
    rw [List.map_cons, List.filter_cons, List.filter_cons]
    simp only
    split
    · rw [List.map_cons, ih]
    · exact ih
theorem esOf_append (gs : List Nat) (l m : Nm) : esOf gs (l ++ m) = esOf gs l ++ esOf gs m := List.map_append
theorem esOf_perm {gs : List Nat} {l m : Nm} (h : l.Perm m) : (esOf gs l).Perm (esOf gs m) := h.map _
theorem applyE_perm {gs : List Nat} {n : Nat} {es : List (List UInt8 × Value)} {l : Nm} {c : Chg} (hp : es.Perm (esOf gs l)) (hg : GoodN l n) (hc : OkC n c) : (applyE gs es c).Perm (esOf gs (applyN l c)) := by
  have hn : (es.map (·.1)).Nodup := (hp.map _).nodup_iff.2 (by rw [esOf_keys]; exact hg.s.nodup)
  have hne : ∀ e ∈ l, ¬ e.1 = [] := fun e he => fileF_ne (hg.f e he).1
  have hdel : ∀ k : List UInt8, (delS es k).Perm (esOf gs (l.filter fun e => decide (¬ e.1 = k))) := fun k => by
    rw [delS_filter hn, ← filter_esOf gs (fun q => decide (¬ q = k))]
    exact hp.filter _
  unfold applyE applyN
  split
  · rename_i ht
    have : keepN c l = l.filter fun e => decide (¬ e.1 = c.fr) := List.filter_congr fun e he => by simp [ht, hne e he]
    rw [this]; exact hdel _
  · rename_i ht
    have hins : ∀ q : Nm, (esOf gs (insN (c.tn, c.fi) q)).Perm (esOf gs q ++ [(c.tn, ptrV (gs.getD c.fi 0))]) := fun q => by
      have := esOf_perm (gs := gs) (insN_perm (x := (c.tn, c.fi)) (l := q))
      rw [esOf_append] at this; exact this
    split
    · rename_i hf
      refine (putS_perm hn).trans (List.Perm.trans ?_ (hins _).symm)
      have : keepN c l = l.filter fun e => decide (¬ e.1 = c.tn) := List.filter_congr fun e he => by simp [hf, hne e he]
      rw [this, ← filter_esOf gs (fun q => decide (¬ q = c.tn))]
      exact (hp.filter _).append_right _
    · have hn2 : ((delS es c.fr).map (·.1)).Nodup := by
        rw [((hdel c.fr).map _).nodup_iff, esOf_keys]
        exact (SortedN.nodup (List.Pairwise.filter _ hg.s))
      refine (putS_perm hn2).trans (List.Perm.trans ?_ (hins _).symm)
      have : keepN c l = (l.filter fun e => decide (¬ e.1 = c.fr)).filter fun e => decide (¬ e.1 = c.tn) := by
        unfold keepN
        rw [List.filter_filter]
        refine List.filter_congr fun e _ => ?_
        by_cases h1 : e.1 = c.fr <;> by_cases h2 : e.1 = c.tn <;> simp [h1, h2]
      rw [this, ← filter_esOf gs (fun q => decide (¬ q = c.tn))]
      exact ((hdel c.fr).filter _).append_right _
theorem esOf_grow {gs : List Nat} {g : Nat} {l : Nm} (h : ∀ e ∈ l, e.2 < gs.length) : esOf (gs ++ [g]) l = esOf gs l := by
  unfold esOf
  refine List.map_congr_left fun e he => ?_
  have := h e he
  rw [List.getD_eq_getElem?_getD, List.getD_eq_getElem?_getD, List.getElem?_append_left this]
theorem findN_lt {k : List UInt8} {i n : Nat} : ∀ {l : Nm}, (∀ e ∈ l, fileF e.1 = true ∧ e.2 < n) → findN k l = some i → i < n ∧ fileF k = true
  | [], _, h => by cases h
  | e :: l, hg, h => by
    unfold findN at h
    split at h
    · rename_i e1
      cases h
      have := hg e (List.mem_cons_self ..)
      exact ⟨this.2, e1 ▸ this.1⟩
    · exact findN_lt (fun e he => hg e (List.mem_cons_of_mem _ he)) h
end Go.Proofs.YtiggkfaonnnjoaaGreatDoor.SL
