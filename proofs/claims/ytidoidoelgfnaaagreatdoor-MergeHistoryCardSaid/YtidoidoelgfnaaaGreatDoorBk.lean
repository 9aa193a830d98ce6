/- Blocks of records: rows in order, what a head has of records (plain). -/
import Derived.Test.YtidoidoelgfnaaaGreatDoorHdM
import Derived.Test.YtidoidoelgfnaaaGreatDoorHq
import Derived.Test.YtidoidoelgfnaaaGreatDoorKg1M
import Derived.Test.YtidoidoelgfnaaaGreatDoorCmp
namespace Go.Proofs.YtidoidoelgfnaaaGreatDoor.SL
open Go.RowKit
set_option linter.unusedVariables false
/-! Rows put in order. -/
def SrtN (T : List MRow) (n : Nat) : Prop := ∀ j1 j2 x y, j1 < j2 → j2 < n → T[j1]? = some x → T[j2]? = some y → ¬ cmpF y.lb.l x.lb.l < 0
def InsR (T : List MRow) (i k : Nat) : Prop := ∀ j1 j2 x y, j1 < j2 → j2 ≤ i → j2 ≠ k → T[j1]? = some x → T[j2]? = some y → ¬ cmpF y.lb.l x.lb.l < 0
theorem InsR.start {T : List MRow} {i : Nat} (h : SrtN T i) : InsR T i i := fun j1 j2 x y h1 h2 h3 => h j1 j2 x y h1 (by omega)
theorem get_swap {T : List MRow} {k : Nat} {x y : MRow} (h0 : 0 < k) (hk : k < T.length) (j : Nat) : ((T.set k y).set (k - 1) x)[j]? = if j = k - 1 then some x else if j = k then some y else T[j]? := by
  rw [List.getElem?_set, List.getElem?_set, List.length_set]
  by_cases e1 : j = k - 1
  · subst e1; rw [if_pos rfl, if_pos rfl, if_pos (by omega)]
  · rw [if_neg (fun h => e1 h.symm), if_neg e1]
    by_cases e2 : j = k
    · subst e2; rw [if_pos rfl, if_pos rfl, if_pos hk]
    · rw [if_neg (fun h => e2 h.symm), if_neg e2]
theorem InsR.step {T : List MRow} {i k : Nat} {x y : MRow} (h : InsR T i k) (h0 : 0 < k) (hki : k ≤ i) (hk : k < T.length) (hx : T[k]? = some x) (hy : T[k - 1]? = some y) (hlt : cmpF x.lb.l y.lb.l < 0) : InsR ((T.set k y).set (k - 1) x) i (k - 1) := by
  intro j1 j2 a b h1 h2 h3 ha hb
  rw [get_swap h0 hk] at ha hb
  rw [if_neg h3] at hb
  by_cases e1 : j1 = k - 1
  · rw [if_pos e1] at ha; cases ha
    by_cases e2 : j2 = k
    · rw [if_pos e2] at hb; cases hb
      have := cmp_anti x.lb.l y.lb.l; omega
    · rw [if_neg e2] at hb; exact h k j2 x b (by omega) h2 e2 hx hb
  · rw [if_neg e1] at ha
    by_cases e1k : j1 = k
    · rw [if_pos e1k] at ha; cases ha
      rw [if_neg (show ¬ j2 = k by omega)] at hb
      exact h (k - 1) j2 y b (by omega) h2 (by omega) hy hb
    · rw [if_neg e1k] at ha
      by_cases e2 : j2 = k
      · rw [if_pos e2] at hb; cases hb
        exact h j1 (k - 1) a y (by omega) (by omega) (by omega) ha hy
      · rw [if_neg e2] at hb; exact h j1 j2 a b h1 h2 e2 ha hb
theorem le_trC {a b c : List Pr} (h1 : ¬ cmpF b a < 0) (h2 : ¬ cmpF c b < 0) : ¬ cmpF c a < 0 := fun h => by
  by_cases k : cmpF b c < 0
  · exact h1 (cmp_tr k h)
  · have := cmp_anti b c
    have e : cmpF b c = 0 := by omega
    rw [cmp_zero e] at h1; exact h1 h
theorem InsR.done {T : List MRow} {i k : Nat} (h : InsR T i k) (hd : k = 0 ∨ ∃ x y, T[k]? = some x ∧ T[k - 1]? = some y ∧ ¬ cmpF x.lb.l y.lb.l < 0) (hki : k ≤ i) : SrtN T (i + 1) := by
  intro j1 j2 a b h1 h2 ha hb
  by_cases e : j2 = k
  · subst e
    rcases hd with hd | ⟨x, y, hx, hy, hle⟩
    · omega
    · rw [hx] at hb; cases hb
      by_cases e1 : j1 = j2 - 1
      · subst e1; rw [hy] at ha; cases ha; exact hle
      · exact le_trC (h j1 (j2 - 1) a y (by omega) (by omega) (by omega) ha hy) hle
  · exact h j1 j2 a b h1 (by omega) e ha hb
theorem swap_perm : ∀ {T : List MRow} {k : Nat} {x y : MRow}, 0 < k → T[k]? = some x → T[k - 1]? = some y → ((T.set k y).set (k - 1) x).Perm T
  | [], k, x, y, _, hx, _ => by simp at hx
  | z :: T, 1, x, y, _, hx, hy => by
    cases T with
    | nil => simp at hx
    | cons u T => simp at hx hy; subst hx; subst hy; exact List.Perm.swap ..
  | z :: T, k + 2, x, y, _, hx, hy => (swap_perm (T := T) (k := k + 1) (by omega) (by simpa using hx) (by simpa using hy)).cons z
theorem srtN_all {T : List MRow} (h : SrtN T T.length) : T.Pairwise fun x y => ¬ cmpF y.lb.l x.lb.l < 0 := by
  rw [List.pairwise_iff_getElem]
  intro i j hi hj hij
  exact h i j _ _ hij hj (List.getElem?_eq_getElem hi) (List.getElem?_eq_getElem hj)
/-! Times in range. -/
def inT (t : Int) : Prop := -9223372036854775808 ≤ t ∧ t ≤ 9223372036854775807
def RngA (A : List RowP) : Prop := ∀ r ∈ A, ∀ p ∈ r.pts, inT p.t
def RngP (r : RcP) : Prop := ∀ s ∈ r.ss, inT s.2.1
theorem rng_put {ss : List SmpP} : ∀ {A A1 : List RowP}, RngA A → (∀ s ∈ ss, inT s.2.1) → putAll A ss = some A1 → RngA A1 := by
  induction ss with
  | nil => intro A A1 h _ e; rw [putAll] at e; cases e; exact h
  | cons s l ih =>
    intro A A1 h hr e
    rw [putAll] at e
    split at e
    · cases e
    · refine ih (fun x hx p hp => ?_) (fun q hq => hr q (by simp [hq])) e
      rcases addF_mem hx with hx | rfl | ⟨r, hr2, _, rfl⟩
      · exact h x hx p hp
      · simp at hp; subst hp; exact hr s (by simp)
      · rcases List.mem_append.1 hp with hp | hp
        · exact h r hr2 p hp
        · simp at hp; subst hp; exact hr s (by simp)
theorem rng_apply {A : List RowP} {r : RcP} (h : RngA A) (hr : RngP r) : RngA (applyP A r) := by
  by_cases ht : tryP A r = 0
  · obtain ⟨hc, A1, h1, _⟩ := try_zero ht
    have h2 := rng_put h hr h1
    unfold applyP
    rw [apply_ok ht h1]
    split
    · intro x hx p hp
      obtain ⟨y, hy, rfl⟩ := List.mem_map.1 hx
      unfold delR at hp
      split at hp
      · exact h2 y hy p (List.mem_filter.1 hp).1
      · exact h2 y hy p hp
    · exact h2
  · rw [applyP_bad ht]; exact h
/-! A head's labels are those of its records' samples. -/
def HasL (A : List RowP) (l : List RcP) : Prop := (∀ r ∈ A, ∃ d ∈ l, ∃ s ∈ d.ss, s.1 = r.lb) ∧ ∀ d ∈ l, ∀ s ∈ d.ss, ∃ r ∈ A, r.lb = s.1
theorem addF_lbs {lb : List Pr} {t : Int} {ps : List Pt} : ∀ {A : List RowP}, (∃ r ∈ addF A lb t ps, r.lb = lb) ∧ ∀ r ∈ A, ∃ x ∈ addF A lb t ps, x.lb = r.lb
  | [] => ⟨⟨⟨lb, t, ps⟩, by simp [addF], rfl⟩, fun r h => by cases h⟩
  | z :: l => by
    obtain ⟨⟨r, hr, he⟩, h2⟩ := addF_lbs (lb := lb) (t := t) (ps := ps) (A := l)
    rw [addF]
    split
    · refine ⟨⟨r, by simp [hr], he⟩, fun x hx => ?_⟩
      rcases List.mem_cons.1 hx with e | hx
      · exact ⟨z, by simp, by rw [e]⟩
      · obtain ⟨y, hy, e⟩ := h2 x hx; exact ⟨y, by simp [hy], e⟩
    · split
      · rename_i hz
        refine ⟨⟨_, List.mem_cons_self .., cmp_zero hz⟩, fun x hx => ?_⟩
        rcases List.mem_cons.1 hx with e | hx
        · exact ⟨_, List.mem_cons_self .., by rw [e]⟩
        · exact ⟨x, by simp [hx], rfl⟩
      · exact ⟨⟨_, List.mem_cons_self .., rfl⟩, fun x hx => ⟨x, List.mem_cons_of_mem _ hx, rfl⟩⟩
theorem put_lb {ss : List SmpP} : ∀ {A A1 : List RowP}, putAll A ss = some A1 → (∀ x ∈ A1, (∃ r ∈ A, r.lb = x.lb) ∨ ∃ s ∈ ss, s.1 = x.lb) ∧ (∀ r ∈ A, ∃ x ∈ A1, x.lb = r.lb) ∧ ∀ s ∈ ss, ∃ x ∈ A1, x.lb = s.1 := by
  induction ss with
  | nil => intro A A1 e; rw [putAll] at e; cases e; exact ⟨fun x hx => .inl ⟨x, hx, rfl⟩, fun r hr => ⟨r, hr, rfl⟩, fun s h => by cases h⟩
  | cons s l ih =>
    intro A A1 e
    rw [putAll] at e
    split at e
    · cases e
    · obtain ⟨i1, i2, i3⟩ := ih e
      obtain ⟨⟨r0, hr0, he0⟩, a2⟩ := addF_lbs (lb := s.1) (t := s.2.1) (ps := [⟨s.2.1, s.2.2⟩]) (A := A)
      refine ⟨fun x hx => ?_, fun r hr => ?_, fun q hq => ?_⟩
      · rcases i1 x hx with ⟨r, hr, h⟩ | ⟨q, hq, h⟩
        · rcases addF_mem hr with hr | rfl | ⟨y, hy, _, rfl⟩
          · exact .inl ⟨r, hr, h⟩
          · exact .inr ⟨s, by simp, h⟩
          · exact .inl ⟨y, hy, h⟩
        · exact .inr ⟨q, by simp [hq], h⟩
      · obtain ⟨y, hy, h⟩ := a2 r hr
        obtain ⟨x, hx, h2⟩ := i2 y hy
        exact ⟨x, hx, by rw [h2, h]⟩
      · rcases List.mem_cons.1 hq with e | hq
        · subst e
          obtain ⟨x, hx, h2⟩ := i2 r0 hr0
          exact ⟨x, hx, by rw [h2, he0]⟩
        · exact i3 q hq
theorem has_nil : HasL [] [] := ⟨(fun r h => by cases h), fun d h => by cases h⟩
theorem delF_lb {A : List RowP} {fr to : Int} {ms : List Mt} : (∀ x ∈ delF fr to ms A, ∃ r ∈ A, r.lb = x.lb) ∧ ∀ r ∈ A, ∃ x ∈ delF fr to ms A, x.lb = r.lb := by
  have hl : ∀ r, (delR fr to ms r).lb = r.lb := fun r => by unfold delR; split <;> rfl
  refine ⟨fun x hx => ?_, fun r hr => ⟨_, List.mem_map.2 ⟨r, hr, rfl⟩, hl r⟩⟩
  obtain ⟨y, hy, rfl⟩ := List.mem_map.1 hx
  exact ⟨y, hy, (hl y).symm⟩
theorem has_step {A : List RowP} {l : List RcP} {r : RcP} (h : HasL A l) (ht : tryP A r = 0) : HasL (applyP A r) (l ++ [r]) := by
  obtain ⟨hc, A1, h1, _⟩ := try_zero ht
  obtain ⟨p1, p2, p3⟩ := put_lb h1
  have key : HasL A1 (l ++ [r]) := by
    refine ⟨fun x hx => ?_, fun d hd s hs => ?_⟩
    · rcases p1 x hx with ⟨q, hq, e⟩ | ⟨s, hs, e⟩
      · obtain ⟨d, hd, s, hs, e2⟩ := h.1 q hq
        exact ⟨d, by simp [hd], s, hs, by rw [e2, e]⟩
      · exact ⟨r, by simp, s, hs, e⟩
    · rcases List.mem_append.1 hd with hd | hd
      · obtain ⟨q, hq, e⟩ := h.2 d hd s hs
        obtain ⟨x, hx, e2⟩ := p2 q hq
        exact ⟨x, hx, by rw [e2, e]⟩
      · rw [List.mem_singleton.1 hd] at hs; exact p3 s hs
  unfold applyP
  rw [apply_ok ht h1]
  split
  · obtain ⟨d1, d2⟩ := delF_lb (A := A1) (fr := r.fr) (to := r.to) (ms := r.ms)
    refine ⟨fun x hx => ?_, fun d hd s hs => ?_⟩
    · obtain ⟨q, hq, e⟩ := d1 x hx
      obtain ⟨d, hd, s, hs, e2⟩ := key.1 q hq
      exact ⟨d, hd, s, hs, by rw [e2, e]⟩
    · obtain ⟨q, hq, e⟩ := key.2 d hd s hs
      obtain ⟨x, hx, e2⟩ := d2 q hq
      exact ⟨x, hx, by rw [e2, e]⟩
  · exact key
/-! Points by their series' keys. -/
theorem isF_nil (lb : List Pr) : isF [] lb = true := by unfold isF; simp; rfl
theorem flt_all {r : RowP} (h : ∀ p ∈ r.pts, inT p.t) : r.pts.filter (inF (-9223372036854775808) 9223372036854775807) = r.pts :=
  List.filter_eq_self.2 fun p hp => by unfold inF; exact decide_eq_true (h p hp)
theorem qry_all {A : List RowP} (h : RngA A) {s : SerP} : s ∈ qryR [] (-9223372036854775808) 9223372036854775807 A ↔ ∃ r ∈ A, r.lb = s.lb ∧ r.pts = s.pts ∧ 0 < r.pts.length := by
  induction A with
  | nil => exact ⟨(fun k => by simp [qryR] at k), fun ⟨r, hr, _⟩ => by cases hr⟩
  | cons z l ih =>
    have ih := ih fun r hr => h r (by simp [hr])
    have hz := flt_all (r := z) (h z (by simp))
    rw [qryR, hz]
    by_cases c : 0 < z.pts.length
    · rw [if_pos ⟨c, isF_nil _⟩, List.mem_cons, ih]
      constructor
      · rintro (e | ⟨r, hr, k⟩)
        · exact ⟨z, by simp, by rw [e], by rw [e], c⟩
        · exact ⟨r, by simp [hr], k⟩
      · rintro ⟨r, hr, e1, e2, e3⟩
        rcases List.mem_cons.1 hr with e | hr
        · subst e; left; rw [e1, e2]
        · exact .inr ⟨r, hr, e1, e2, e3⟩
    · rw [if_neg fun k => c k.1, ih]
      constructor
      · rintro ⟨r, hr, k⟩; exact ⟨r, by simp [hr], k⟩
      · rintro ⟨r, hr, e1, e2, e3⟩
        rcases List.mem_cons.1 hr with e | hr
        · subst e; exact absurd e3 c
        · exact ⟨r, hr, e1, e2, e3⟩
def kvS (s : MSer) : List UInt8 × Value := (keyB s.lb.l, .slice s.pt.a s.pt.l.length s.pt.cap)
def kvO (x : MRow) : List UInt8 × Value := (keyB x.lb.l, .bool true)
theorem getS_kvS {lb : List Pr} (hl : chk lb = true) : ∀ {o : List MSer}, (∀ s ∈ o, chk s.lb.l = true) → (getS (o.map kvS) (keyB lb) = none ∧ ∀ s ∈ o, s.lb.l ≠ lb) ∨ ∃ s ∈ o, s.lb.l = lb ∧ getS (o.map kvS) (keyB lb) = some (.slice s.pt.a s.pt.l.length s.pt.cap)
  | [], _ => .inl ⟨rfl, fun s h => by cases h⟩
  | s :: o, hc => by
    rw [List.map_cons, kvS, getS]
    by_cases e : s.lb.l = lb
    · rw [if_pos (by rw [e])]; exact .inr ⟨s, by simp, e, rfl⟩
    · rw [if_neg fun k => e (key_inj hl (hc s (by simp)) k).symm]
      rcases getS_kvS hl (o := o) fun q hq => hc q (by simp [hq]) with ⟨h1, h2⟩ | ⟨q, hq, h⟩
      · exact .inl ⟨h1, fun q hq => by
          rcases List.mem_cons.1 hq with h | h
          · rw [h]; exact e
          · exact h2 q h⟩
      · exact .inr ⟨q, by simp [hq], h⟩
theorem look_ser {o : List MSer} {A : List RowP} {r : RowP} (ho : o.map MSer.p = qryR [] (-9223372036854775808) 9223372036854775807 A) (hs : SrtR A) (hR : RngA A) (hc : ∀ r ∈ A, chk r.lb = true) (hr : r ∈ A) :
    ∃ q : SlV Pt, (getS (o.map kvS) (keyB r.lb)).getD (.slice none 0 0) = .slice q.a q.l.length q.cap ∧ q.l = r.pts ∧ (q = ⟨none, [], 0⟩ ∨ ∃ s ∈ o, s.pt = q) := by
  have hm : ∀ s ∈ o, ∃ x ∈ A, x.lb = s.lb.l ∧ x.pts = s.pt.l := fun s hs9 => by
    have h1 : s.p ∈ qryR [] (-9223372036854775808) 9223372036854775807 A := ho ▸ List.mem_map.2 ⟨s, hs9, rfl⟩
    obtain ⟨x, hx, e1, e2, _⟩ := (qry_all hR).1 h1
    exact ⟨x, hx, e1, e2⟩
  rcases getS_kvS (hc r hr) (o := o) (fun s hs9 => by obtain ⟨x, hx, e, _⟩ := hm s hs9; rw [← e]; exact hc x hx) with ⟨h1, h2⟩ | ⟨s, hs9, e, h⟩
  · refine ⟨⟨none, [], 0⟩, by rw [h1]; rfl, ?_, .inl rfl⟩
    by_cases c : 0 < r.pts.length
    · have h3 := (qry_all hR (s := ⟨r.lb, r.pts⟩)).2 ⟨r, hr, rfl, rfl, c⟩
      rw [← ho] at h3
      obtain ⟨s, hs9, e⟩ := List.mem_map.1 h3
      exact absurd (congrArg SerP.lb e) (h2 s hs9)
    · exact (List.length_eq_zero_iff.1 (by omega)).symm
  · obtain ⟨x, hx, e1, e2⟩ := hm s hs9
    have : x = r := srt_one hs hx hr (by rw [e1, e])
    subst this
    exact ⟨s.pt, by rw [h]; rfl, e2.symm, .inr ⟨s, hs9, rfl⟩⟩
theorem look_seen {lb : List Pr} (hl : chk lb = true) : ∀ {o : List MRow}, (∀ s ∈ o, chk s.lb.l = true) → (getS (o.map kvO) (keyB lb)).getD (.bool false) = .bool (decide (lb ∈ o.map (·.lb.l)))
  | [], _ => by simp [getS]
  | s :: o, hc => by
    rw [List.map_cons, List.map_cons, kvO, getS]
    by_cases e : s.lb.l = lb
    · rw [if_pos (by rw [e])]; simp [e]
    · rw [if_neg fun k => e (key_inj hl (hc s (by simp)) k).symm, look_seen hl (o := o) fun q hq => hc q (by simp [hq])]
      congr 1
      exact decide_eq_decide.2 ⟨fun h => List.mem_cons_of_mem _ h, fun h => (List.mem_cons.1 h).resolve_left fun k => e k.symm⟩
theorem seen_none {lb : List Pr} (hl : chk lb = true) : ∀ {o : List MRow}, (∀ s ∈ o, chk s.lb.l = true) → ¬ lb ∈ o.map (·.lb.l) → getS (o.map kvO) (keyB lb) = none
  | [], _, _ => rfl
  | s :: o, hc, hn => by
    rw [List.map_cons, kvO, getS, if_neg fun k => hn (by rw [List.map_cons, ← key_inj hl (hc s (by simp)) k]; exact List.mem_cons_self ..)]
    exact seen_none hl (fun q hq => hc q (by simp [hq])) fun h => hn (by rw [List.map_cons]; exact List.mem_cons_of_mem _ h)
/-- Rows of a head, each once, are the head's. -/
theorem rows_perm {A : List RowP} {out : List MRow} (hs : SrtR A) (h1 : ∀ x ∈ out, x.p ∈ A) (h2 : (out.map (·.lb.l)).Nodup) (h3 : ∀ r ∈ A, r.lb ∈ out.map (·.lb.l)) : (out.map MRow.p).Perm A := by
  have n1 : (out.map MRow.p).Nodup := by
    unfold List.Nodup at h2 ⊢
    rw [List.pairwise_map] at h2 ⊢
    exact h2.imp fun {a b} h e => h (congrArg RowP.lb e)
  have n2 : A.Nodup := hs.imp fun {a b} h e => by rw [e, cmp_self] at h; omega
  refine (List.perm_ext_iff_of_nodup n1 n2).2 fun r => ⟨fun h => ?_, fun h => ?_⟩
  · obtain ⟨x, hx, rfl⟩ := List.mem_map.1 h; exact h1 x hx
  · obtain ⟨x, hx, e⟩ := List.mem_map.1 (h3 r h)
    have := srt_one hs (h1 x hx) h e
    exact List.mem_map.2 ⟨x, hx, this⟩
theorem chk_SzP {l : List Pr} (h : chk l = true) : SzP l ∧ l.length ≤ 4398046511104 := by
  obtain ⟨h1, _, h3⟩ := chk_sz h
  exact ⟨fun p hp => by have := h3 p hp; omega, by omega⟩
theorem qry_srt {ask : List Mt} {fr to : Int} : ∀ {A : List RowP}, SrtR A → (qryR ask fr to A).Pairwise fun a b => a.lb ≠ b.lb
  | [], _ => List.Pairwise.nil
  | r :: l, hs => by
    have h2 := List.pairwise_cons.1 hs
    rw [qryR]
    split
    · refine List.pairwise_cons.2 ⟨fun s hs9 e => ?_, qry_srt h2.2⟩
      have hm : ∀ {A : List RowP}, s ∈ qryR ask fr to A → ∃ x ∈ A, x.lb = s.lb := by
        intro A
        induction A with
        | nil => intro k; cases k
        | cons z A ih =>
          intro k
          rw [qryR] at k
          split at k
          · rcases List.mem_cons.1 k with e | k
            · exact ⟨z, by simp, by rw [e]⟩
            · obtain ⟨x, hx, e⟩ := ih k; exact ⟨x, by simp [hx], e⟩
          · obtain ⟨x, hx, e⟩ := ih k; exact ⟨x, by simp [hx], e⟩
      obtain ⟨x, hx, e2⟩ := hm hs9
      have h3 := h2.1 x hx
      rw [e2, ← e, cmp_self] at h3; omega
    · exact qry_srt h2.2
theorem ser_none {o : List MSer} {A : List RowP} {ask : List Mt} {fr to : Int} {i : Nat} {s : MSer} (ho : o.map MSer.p = qryR ask fr to A) (hs : SrtR A) (hc : ∀ s ∈ o, chk s.lb.l = true) (hi : o[i]? = some s) : getS ((o.take i).map kvS) (keyB s.lb.l) = none := by
  have hp := qry_srt (ask := ask) (fr := fr) (to := to) hs
  rw [← ho, List.pairwise_map] at hp
  rcases getS_kvS (hc s (List.mem_of_getElem? hi)) (o := o.take i) (fun q hq => hc q (List.mem_of_mem_take hq)) with h | ⟨q, hq, e, _⟩
  · exact h.1
  · obtain ⟨j, hj, hq2⟩ := List.getElem_of_mem hq
    rw [List.length_take] at hj
    obtain ⟨hlt, hs2⟩ := List.getElem?_eq_some_iff.1 hi
    have := (List.pairwise_iff_getElem.1 hp) j i (by omega) hlt (by omega)
    rw [List.getElem_take] at hq2
    rw [hq2, hs2] at this
    exact absurd e this
theorem ser_chk {o : List MSer} {A : List RowP} (ho : o.map MSer.p = qryR [] (-9223372036854775808) 9223372036854775807 A) (hR : RngA A) (hc : ∀ r ∈ A, chk r.lb = true) : ∀ s ∈ o, chk s.lb.l = true := fun s hs => by
  obtain ⟨x, hx, e, _⟩ := (qry_all hR).1 (ho ▸ List.mem_map.2 ⟨s, hs, rfl⟩ : s.p ∈ _)
  have := hc x hx
  rw [e] at this; exact this
structure OutOk (A : List RowP) (out : List MRow) : Prop where
  mem : ∀ x ∈ out, x.p ∈ A
  nd : (out.map (·.lb.l)).Nodup
theorem OutOk.snoc {A : List RowP} {out : List MRow} {x : MRow} (h : OutOk A out) (hx : x.p ∈ A) (hn : ¬ x.lb.l ∈ out.map (·.lb.l)) : OutOk A (out ++ [x]) := by
  refine ⟨fun y hy => ?_, ?_⟩
  · rcases List.mem_append.1 hy with hy | hy
    · exact h.mem y hy
    · rw [List.mem_singleton.1 hy]; exact hx
  · rw [List.map_append, List.nodup_append]
    exact ⟨h.nd, by simp, fun a ha b hb => by simp at hb; subst hb; exact fun e => hn (e ▸ ha)⟩
def CovL (out : List MRow) (l : List Smp) : Prop := ∀ s ∈ l, s.lb.l ∈ out.map (·.lb.l)
def CovR (out : List MRow) (l : List Rcd) : Prop := ∀ d ∈ l, CovL out d.ss.l
theorem CovL.more {out : List MRow} {l : List Smp} {x : MRow} (h : CovL out l) : CovL (out ++ [x]) l := fun s hs => by rw [List.map_append]; exact List.mem_append_left _ (h s hs)
theorem CovR.more {out : List MRow} {l : List Rcd} {x : MRow} (h : CovR out l) : CovR (out ++ [x]) l := fun d hd => (h d hd).more
theorem CovL.snoc {out : List MRow} {l : List Smp} {k : Nat} {z : Smp} (h : CovL out (l.take k)) (hz : l[k]? = some z) (hi : z.lb.l ∈ out.map (·.lb.l)) : CovL out (l.take (k + 1)) := fun s hs => by
  rw [take_snocM hz] at hs
  rcases List.mem_append.1 hs with hs | hs
  · exact h s hs
  · rw [List.mem_singleton.1 hs]; exact hi
theorem CovR.snoc {out : List MRow} {l : List Rcd} {k : Nat} {z : Rcd} (h : CovR out (l.take k)) (hz : l[k]? = some z) (hi : CovL out z.ss.l) : CovR out (l.take (k + 1)) := fun s hs => by
  rw [take_snocM hz] at hs
  rcases List.mem_append.1 hs with hs | hs
  · exact h s hs
  · rw [List.mem_singleton.1 hs]; exact hi
theorem out_done {A : List RowP} {out T : List MRow} {rs : List Rcd} (hs : SrtR A) (hH : HasL A (rs.map Rcd.p)) (ho : OutOk A out) (hc : CovR out rs) (hp : T.Perm out) (hT : T.Pairwise fun x y => ¬ cmpF y.lb.l x.lb.l < 0) : T.map MRow.p = A := by
  refine sorted_eq hs ((hp.map _).trans (rows_perm hs ho.mem ho.nd fun r hr => ?_)) (by rw [List.pairwise_map]; exact hT)
  obtain ⟨d, hd, s, hs9, e⟩ := hH.1 r hr
  obtain ⟨d', hd', rfl⟩ := List.mem_map.1 hd
  obtain ⟨s', hs', rfl⟩ := List.mem_map.1 hs9
  rw [← e]; exact hc d' hd' s' hs'
theorem ser_pts {B w : World} {L : List HP} {o : List MSer} {q : SlV Pt} (h : q = ⟨none, [], 0⟩ ∨ ∃ s ∈ o, s.pt = q) (hS : St B (allA serA o :: L) w) : St B (ptsA q :: allA serA o :: L) w := by
  rcases h with rfl | ⟨s, hs, rfl⟩
  · exact rdH_zero rfl hS
  · have h1 := serA_get hs hS
    exact (h1.drop : St B (ptsA s.pt :: allA serA o :: L) w)
theorem mr_snoc {B w : World} {L : List HP} {o : List MRow} {x : MRow} (hS : St B (labA x.lb :: ptsA x.pt :: allA mrA o :: L) w) : St B (allA mrA (o ++ [x]) :: L) w :=
  allA_snoc (((hS.join : St B (mrA x :: allA mrA o :: L) w)).permT [1, 0] (L' := allA mrA o :: mrA x :: L) rfl)
theorem rd_nilQ {w : World} (k : Nat) : Rd w none 0 k [] := ⟨by simp, fun h => by omega, fun j hj => by omega⟩
theorem nodup_len {α : Type} : ∀ {l m : List α}, l.Nodup → (∀ x ∈ l, x ∈ m) → l.length ≤ m.length
  | [], _, _, _ => Nat.zero_le _
  | x :: l, m, hn, hs => by
    obtain ⟨s, t, rfl⟩ := List.append_of_mem (hs x (by simp))
    have h2 := List.nodup_cons.1 hn
    have := nodup_len (l := l) (m := s ++ t) h2.2 fun y hy => by
      have h3 := hs y (by simp [hy])
      rcases List.mem_append.1 h3 with h3 | h3
      · exact List.mem_append_left _ h3
      · rcases List.mem_cons.1 h3 with h3 | h3
        · rw [h3] at hy; exact absurd hy h2.1
        · exact List.mem_append_right _ h3
    rw [List.length_append] at this
    rw [List.length_append, List.length_cons, List.length_cons]; omega
theorem OutOk.len {A : List RowP} {out : List MRow} (h : OutOk A out) : out.length ≤ A.length := by
  have h2 := h.nd
  unfold List.Nodup at h2
  rw [List.pairwise_map] at h2
  have := nodup_len (l := out.map MRow.p) (m := A) (by unfold List.Nodup; rw [List.pairwise_map]; exact h2.imp fun {a b} h e => h (congrArg RowP.lb e)) fun x hx => by obtain ⟨y, hy, rfl⟩ := List.mem_map.1 hx; exact h.mem y hy
  rwa [List.length_map] at this
/-! A block of records. -/
def delsOf (l : List RcP) : List RcP := l.filter fun r => decide (r.k = 2)
def runP : List RowP → List RcP → Int × List RowP
  | A, [] => (0, A)
  | A, r :: l => if tryP A r = 0 then runP (applyP A r) l else (tryP A r, A)
def ofE (first : Int) (l : List RcP) : Int := if first < 1 ∨ 99999999 < first ∨ l.length = 0 ∨ 99999999 - first + 1 < (l.length : Int) then 2 else (runP [] l).1
def ofB (first : Int) (l : List RcP) : BlkP := ⟨first, first + (l.length : Int) - 1, (runP [] l).2, delsOf l⟩
theorem dels_snoc (l : List RcP) (r : RcP) : delsOf (l ++ [r]) = delsOf l ++ if r.k = 2 then [r] else [] := by
  unfold delsOf
  rw [List.filter_append, List.filter_cons, List.filter_nil]
  by_cases h : r.k = 2 <;> simp [h]
theorem blA_shut {B w : World} {L : List HP} {b : BlkV} (h : St B (rsA b.rs :: allA mrA b.rs.l :: dsA b.ds :: allA recA b.ds.l :: L) w) : St B (blA b :: L) w := by
  have h1 := (h.permT [2, 2, 0, 0] (L' := dsA b.ds :: allA recA b.ds.l :: rsA b.rs :: allA mrA b.rs.l :: L) rfl).join
  have h2 := (h1.permT [2, 0, 0] (L' := allA mrA b.rs.l :: .sep (dsA b.ds) (allA recA b.ds.l) :: rsA b.rs :: L) rfl).join
  exact (h2.permT [1, 0] (L' := rsA b.rs :: .sep (allA mrA b.rs.l) (.sep (dsA b.ds) (allA recA b.ds.l)) :: L) rfl).join
theorem runP_sz {M : Nat} {l : List RcP} : ∀ {A : List RowP}, WfH A M → WfH (runP A l).2 (M + 32 * l.length) := by
  induction l generalizing M with
  | nil => intro A h; exact h
  | cons r l ih =>
    intro A h
    rw [runP]
    split
    · have := ih (wf_applyP (r := r) h)
      rw [List.length_cons, show M + 32 * (l.length + 1) = M + 32 + 32 * l.length by omega]; exact this
    · exact h.mono (Nat.le_add_right _ _)
end Go.Proofs.YtidoidoelgfnaaaGreatDoor.SL
