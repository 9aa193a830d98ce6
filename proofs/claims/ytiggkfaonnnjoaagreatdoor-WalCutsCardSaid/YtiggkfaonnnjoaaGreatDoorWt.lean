/- The log as plain data: synced, and opened anew. -/
import Derived.Test.YtiggkfaonnnjoaaGreatDoorWpM
namespace Go.Proofs.YtiggkfaonnnjoaaGreatDoor.SL
open Go.RowKit
set_option linter.unusedVariables false
set_option linter.unusedSimpArgs false
def recsL (l : List Sg) : List (List UInt8) := l.flatMap (·.rs)
/-- Segments one behind the other, from a number on. -/
def Cont : Nat → List Sg → Prop
  | _, [] => True
  | a, x :: l => x.first = a ∧ x.rs ≠ [] ∧ Cont (a + x.rs.length) l
theorem recsL_append (l m : List Sg) : recsL (l ++ m) = recsL l ++ recsL m := by unfold recsL; rw [List.flatMap_append]
theorem recsL_one (x : Sg) : recsL [x] = x.rs := by unfold recsL; simp
theorem Cont.append : ∀ {l : List Sg} {a : Nat} {m : List Sg}, Cont a (l ++ m) ↔ Cont a l ∧ Cont (a + (recsL l).length) m
  | [], a, m => by show Cont a m ↔ True ∧ Cont (a + 0) m; simp
  | x :: l, a, m => by
    have e : recsL (x :: l) = x.rs ++ recsL l := rfl
    rw [e, List.length_append, ← Nat.add_assoc]
    show (x.first = a ∧ x.rs ≠ [] ∧ Cont (a + x.rs.length) (l ++ m)) ↔ _
    rw [Cont.append (l := l)]
    show _ ↔ (x.first = a ∧ x.rs ≠ [] ∧ Cont (a + x.rs.length) l) ∧ _
    exact ⟨fun ⟨h1, h2, h3, h4⟩ => ⟨⟨h1, h2, h3⟩, h4⟩, fun ⟨⟨h1, h2, h3⟩, h4⟩ => ⟨h1, h2, h3, h4⟩⟩
theorem cont_read : ∀ {l : List Sg} {a : Nat} {n : Int} {r : List UInt8}, Cont a l → (a : Int) ≤ n → (recsL l)[(n - a).toNat]? = some r → readL l n = (r, 0)
  | [], a, n, r, _, _, h => by simp [recsL] at h
  | x :: l, a, n, r, ⟨h1, h2, h3⟩, hn, h => by
    have e : recsL (x :: l) = x.rs ++ recsL l := rfl
    rw [e] at h
    unfold readL
    by_cases hc : n < (a : Int) + x.rs.length
    · rw [if_pos (by rw [h1]; exact ⟨hn, hc⟩), h1]
      rw [List.getElem?_append_left (by omega)] at h
      rw [List.getD_eq_getElem?_getD, h]; rfl
    · rw [if_neg (by rw [h1]; omega)]
      rw [List.getElem?_append_right (by omega)] at h
      refine cont_read h3 (by omega) ?_
      rw [show (n - ((a + x.rs.length : Nat) : Int)).toNat = (n - a).toNat - x.rs.length by omega]; exact h
/-- The log has just these records. -/
structure GW (lg : Lg) (D : Dk) (n t U : Nat) (rs : List (List UInt8)) : Prop where
  w : LWell lg D n t U
  c : Cont 1 lg.l
  r : recsL lg.l = rs
  la : lg.last = rs.length
theorem GW.new : GW (lg0 []) (newD 1048576) 0 0 0 [] := ⟨LWell.new, trivial, rfl, rfl⟩
theorem GW.mono {lg : Lg} {D : Dk} {n t U n' t' U' : Nat} {rs : List (List UInt8)} (h : GW lg D n t U rs) (hn : n ≤ n') (ht : t ≤ t') (hU : U ≤ U') : GW lg D n' t' U' rs := ⟨h.w.mono hn ht hU, h.c, h.r, h.la⟩
theorem GW.append {lg : Lg} {D : Dk} {n t U : Nat} {rs : List (List UInt8)} {s : List UInt8} (h : GW lg D n t U rs) (hs : s.length ≤ 1000) (hU : U + (s.length + 14) ≤ 1048576) (hl : lg.last < 99999998) (hn : lg.l.length < 64) :
    ∃ D', appendL lg D s = ⟨appG lg s, D', lg.last + 1, 0⟩ ∧ GW (appG lg s) D' (n + 1) (t + (s.length + 14)) (U + (s.length + 14)) (rs ++ [s]) := by
  obtain ⟨D', h1, h2⟩ := h.w.append hs hU hl hn
  refine ⟨D', h1, h2, ?_, ?_, ?_⟩
  · cases hh : handS lg with
    | none =>
      unfold appG; rw [hh]
      show Cont 1 (lg.l ++ [newS (lg.last + 1) s])
      rw [Cont.append, h.r]
      exact ⟨h.c, by show lg.last + 1 = _; rw [h.la]; omega, by show [s] ≠ []; simp, trivial⟩
    | some z =>
      obtain ⟨hz, _⟩ := handS_some hh
      have hl0 : lg.l = lg.l.dropLast ++ [z] := by
        have hne : lg.l ≠ [] := fun h0 => by rw [h0] at hz; simp at hz
        have h3 : lg.l.getLast? = some z := by rw [List.getLast?_eq_getElem?]; exact hz
        rw [List.getLast?_eq_some_getLast hne] at h3
        have h4 := List.dropLast_concat_getLast hne
        rw [Option.some.inj h3] at h4; exact h4.symm
      unfold appG; rw [hh]
      show Cont 1 (lg.l.dropLast ++ [moreS z s])
      have hc := h.c
      rw [hl0, Cont.append] at hc
      rw [Cont.append]
      exact ⟨hc.1, hc.2.1, by show z.rs ++ [s] ≠ []; simp, trivial⟩
  · cases hh : handS lg with
    | none => unfold appG; rw [hh]; show recsL (lg.l ++ [newS (lg.last + 1) s]) = _; rw [recsL_append, h.r, recsL_one]; rfl
    | some z =>
      obtain ⟨hz, _⟩ := handS_some hh
      have hl0 : lg.l = lg.l.dropLast ++ [z] := by
        have hne : lg.l ≠ [] := fun h0 => by rw [h0] at hz; simp at hz
        have h3 : lg.l.getLast? = some z := by rw [List.getLast?_eq_getElem?]; exact hz
        rw [List.getLast?_eq_some_getLast hne] at h3
        have h4 := List.dropLast_concat_getLast hne
        rw [Option.some.inj h3] at h4; exact h4.symm
      unfold appG; rw [hh]
      show recsL (lg.l.dropLast ++ [moreS z s]) = _
      have hr := h.r
      rw [hl0, recsL_append, recsL_one] at hr
      rw [recsL_append, recsL_one, ← hr]
      show recsL lg.l.dropLast ++ (z.rs ++ [s]) = _
      rw [List.append_assoc]
  · rw [(appG_last lg s).1, List.length_append, h.la]; rfl
theorem GW.read {lg : Lg} {D : Dk} {n t U : Nat} {rs : List (List UInt8)} {k : Nat} {r : List UInt8} (h : GW lg D n t U rs) (hr : rs[k]? = some r) : readL lg.l ((k : Int) + 1) = (r, 0) :=
  cont_read h.c (by omega) (by rw [h.r, show ((k : Int) + 1 - ((1 : Nat) : Int)).toNat = k by omega]; exact hr)
/-! Sync. -/
def clean (x : Sg) : Sg := ⟨x.first, x.rs, false⟩
structure SyR (D D' : Dk) : Prop where
  nm : D'.nm = D.nm
  last : D'.last = D.last
  ch : D'.ch = D.ch
  room : D'.room = D.room
  left : D'.left = D.left
  dead : D'.dead = D.dead
  len : D'.f.length = D.f.length
  c : ∀ i, (fileAt D'.f i).1 = (fileAt D.f i).1
  s : ∀ i, (fileAt D.f i).2 = (fileAt D.f i).1.length → (fileAt D'.f i).2 = (fileAt D.f i).1.length
theorem SyR.refl (D : Dk) : SyR D D := ⟨rfl, rfl, rfl, rfl, rfl, rfl, rfl, fun _ => rfl, fun _ h => h⟩
theorem SyR.trans {D E F : Dk} (h : SyR D E) (k : SyR E F) : SyR D F := ⟨k.nm.trans h.nm, k.last.trans h.last, k.ch.trans h.ch, k.room.trans h.room, k.left.trans h.left, k.dead.trans h.dead, k.len.trans h.len, fun i => (k.c i).trans (h.c i), fun i hi => by
  have h1 := h.s i hi
  rw [← h.c i] at h1 ⊢
  exact k.s i h1⟩
theorem sync_one {D : Dk} {k : List UInt8} {i : Nat} (hu : Up D) (hf : findN k D.nm = some i) (hi : i < D.f.length) : ∃ D', syncD D k = (D', 0) ∧ SyR D D' ∧ (fileAt D'.f i).2 = (fileAt D.f i).1.length := by
  refine ⟨{ D with f := D.f.set i ((fileAt D.f i).1, (fileAt D.f i).1.length) }, ?_, ⟨rfl, rfl, rfl, rfl, rfl, rfl, List.length_set, fun j => ?_, fun j hj => ?_⟩, ?_⟩
  · unfold syncD; rw [hu.on]; unfold sync1; rw [hf]
  · show (fileAt (D.f.set i _) j).1 = _
    rw [fileAt_set hi]; split
    · rename_i h; rw [h]
    · rfl
  · show (fileAt (D.f.set i _) j).2 = _
    rw [fileAt_set hi]; split
    · rename_i h; rw [h]
    · exact hj
  · show (fileAt (D.f.set i _) i).2 = _
    rw [fileAt_set hi, if_pos rfl]
theorem sync_all {n t : Nat} : ∀ {l : List Sg} {D : Dk}, Up D → OkD D n t → (∀ x ∈ l, ∃ i, findN (nameW x.first) D.nm = some i ∧ (x.dirty = false → (fileAt D.f i).2 = (fileAt D.f i).1.length)) →
    ∃ D', syncGo l D = (l.map clean, D', 0) ∧ SyR D D' ∧ OkD D' n t ∧ ∀ x ∈ l, ∃ i, findN (nameW x.first) D.nm = some i ∧ (fileAt D'.f i).2 = (fileAt D.f i).1.length
  | [], D, _, hk, _ => ⟨D, rfl, SyR.refl D, hk, fun x hx => by cases hx⟩
  | x :: l, D, hu, hk, hl => by
    obtain ⟨i, hi, hc⟩ := hl x (List.mem_cons_self ..)
    have hil := (findN_lt hk.w.good.f hi).1
    cases hd : x.dirty with
    | true =>
      obtain ⟨D1, h1, h2, h3⟩ := sync_one hu hi hil
      have hk1 := hk.sync (k := nameW x.first)
      rw [h1] at hk1
      obtain ⟨D', g1, g2, g3, g4⟩ := sync_all (l := l) (D := D1) ⟨h2.left.trans hu.left, h2.dead.trans hu.dead⟩ hk1 (fun y hy => by
        obtain ⟨j, hj, hcj⟩ := hl y (List.mem_cons_of_mem _ hy)
        exact ⟨j, by rw [h2.nm]; exact hj, fun hy2 => by rw [h2.c j]; exact h2.s j (hcj hy2)⟩)
      refine ⟨D', ?_, h2.trans g2, g3, fun y hy => ?_⟩
      · show (if x.dirty = true then _ else _) = _
        rw [if_pos hd, h1, if_pos rfl, g1]; rfl
      · rcases List.mem_cons.1 hy with rfl | hy
        · exact ⟨i, hi, by rw [← h2.c i] at h3 ⊢; exact g2.s i h3⟩
        · obtain ⟨j, hj, hcj⟩ := g4 y hy
          exact ⟨j, by rw [← h2.nm]; exact hj, by rw [← h2.c j]; exact hcj⟩
    | false =>
      obtain ⟨D', g1, g2, g3, g4⟩ := sync_all (l := l) (D := D) hu hk (fun y hy => hl y (List.mem_cons_of_mem _ hy))
      refine ⟨D', ?_, g2, g3, fun y hy => ?_⟩
      · show (if x.dirty = true then _ else _) = _
        rw [if_neg (by rw [hd]; exact Bool.noConfusion), g1]
        have : clean x = x := by unfold clean; rw [← hd]
        show _ = (clean x :: l.map clean, _); rw [this]
      · rcases List.mem_cons.1 hy with rfl | hy
        · exact ⟨i, hi, g2.s i (hc hd)⟩
        · exact g4 y hy
theorem used_same {f f' : List (List UInt8 × Nat)} (h : ∀ i, (fileAt f' i).1 = (fileAt f i).1) (l : Nm) : usedN f' l = usedN f l := by
  unfold usedN; congr 1; exact List.map_congr_left fun e _ => by rw [h]
theorem map_clean_get {l : List Sg} {i : Nat} {x : Sg} (h : (l.map clean)[i]? = some x) : ∃ y, l[i]? = some y ∧ x = clean y := by
  rw [List.getElem?_map] at h
  cases hl : l[i]? with
  | none => rw [hl] at h; cases h
  | some y => rw [hl] at h; exact ⟨y, rfl, (Option.some.inj h).symm⟩
theorem endL_clean (l : List Sg) : endL (l.map clean) = endL l := by
  unfold endL
  rw [List.getLast?_map]
  cases l.getLast? <;> rfl
theorem cont_clean : ∀ {l : List Sg} {a : Nat}, Cont a l → Cont a (l.map clean)
  | [], _, _ => trivial
  | x :: l, a, ⟨h1, h2, h3⟩ => ⟨h1, h2, cont_clean h3⟩
theorem recs_clean : ∀ l : List Sg, recsL (l.map clean) = recsL l
  | [] => rfl
  | x :: l => by show x.rs ++ recsL (l.map clean) = x.rs ++ recsL l; rw [recs_clean l]
def syncedL (lg : Lg) : Lg := ⟨lg.l.map clean, lg.hand, false, lg.last, lg.last⟩
theorem GW.sync {lg : Lg} {D : Dk} {n t U : Nat} {rs : List (List UInt8)} (h : GW lg D n t U rs) : ∃ D', syncL lg D = ⟨syncedL lg, D', 0, 0⟩ ∧ GW (syncedL lg) D' n t U rs := by
  have hw := h.w
  obtain ⟨D1, h1, h2, h3, h4⟩ := sync_all (l := lg.l) hw.up hw.dk (fun x hx => by
    obtain ⟨i, hi⟩ := List.getElem?_of_mem hx
    obtain ⟨e, he, hf, hc, hs⟩ := hw.find hi
    exact ⟨e.2, hf, fun hd => by rw [hc]; exact hs hd⟩)
  have key : ∀ (E : Dk), Up E → E.room = 1048576 → OkD E n t → E.nm = D.nm → E.last = D.nm → E.ch = [] → E.f = D1.f → GW (syncedL lg) E n t U rs := fun E hu hr hk hn hl hc hf => by
    refine ⟨⟨hu, hr, ?_, hk, ?_, ?_, ?_, ?_, ?_, ?_, ?_, hw.small, fun _ => ⟨by rw [hl, hn], hc⟩⟩, cont_clean h.c, (recs_clean _).trans h.r, h.la⟩
    · refine ⟨fun x hx => ?_, fun x hx => ?_, fun x hx => ?_, by show (lg.l.map clean).length ≤ _; rw [List.length_map]; exact hw.ok.n, hw.ok.la, fun hh h0 => hw.ok.hd hh (List.map_eq_nil_iff.1 h0)⟩
      all_goals (obtain ⟨y, hy, rfl⟩ := List.mem_map.1 hx)
      · exact hw.ok.b y hy
      · exact hw.ok.ne y hy
      · exact hw.ok.r y hy
    · intro x hx; obtain ⟨y, hy, rfl⟩ := List.mem_map.1 hx; exact hw.few y hy
    · intro x hx; obtain ⟨y, hy, rfl⟩ := List.mem_map.1 hx; exact hw.fst y hy
    · intro i x y hx hy
      obtain ⟨x', hx', rfl⟩ := map_clean_get hx
      obtain ⟨y', hy', rfl⟩ := map_clean_get hy
      exact hw.chain i x' y' hx' hy'
    · rw [hn, hw.nms]; show nmsW lg.l = nmsW (lg.l.map clean); unfold nmsW; rw [List.map_map]; rfl
    · intro i x hx
      obtain ⟨y, hy, rfl⟩ := map_clean_get hx
      obtain ⟨e, he, hfi, hc1, _⟩ := hw.find hy
      obtain ⟨j, hj, hj2⟩ := h4 y (List.mem_of_getElem? hy)
      rw [hfi] at hj; cases hj
      refine ⟨e, by rw [hn]; exact he, ?_, fun _ => ?_⟩
      · rw [hf, h2.c e.2]; exact hc1
      · rw [hf, hj2, hc1]; rfl
    · rw [hf, hn, used_same h2.c]; exact hw.used
    · intro hne
      show endL (lg.l.map clean) = lg.last
      rw [endL_clean]; exact hw.last fun h0 => hne (by show lg.l.map clean = []; rw [h0]; rfl)
  have hu1 : Up D1 := ⟨h2.left.trans hw.up.left, h2.dead.trans hw.up.dead⟩
  have hs : syncNamesD D1 = ({ D1 with last := D1.nm, ch := [] }, 0) := by unfold syncNamesD; rw [hu1.on]; rfl
  cases hb : lg.begun with
  | true =>
    have hk := h3.syncNames
    rw [hs] at hk
    refine ⟨{ D1 with last := D1.nm, ch := [] }, ?_, key _ ⟨hu1.left, hu1.dead⟩ (h2.room.trans hw.room) hk h2.nm h2.nm rfl rfl⟩
    unfold syncL
    rw [h1, if_neg (fun q => q rfl), if_pos hb, hs, if_pos rfl]; rfl
  | false =>
    obtain ⟨hn1, hn2⟩ := hw.names hb
    refine ⟨D1, ?_, key D1 hu1 (h2.room.trans hw.room) h3 h2.nm (h2.last.trans hn1) (h2.ch.trans hn2) rfl⟩
    unfold syncL
    rw [h1, if_neg (fun q => q rfl), if_neg (by rw [hb]; exact Bool.noConfusion)]
    unfold syncedL; rw [hb]
/-! Opened anew. -/
theorem crashF_same {zs : List Int} : ∀ {l : Nm} {j : Nat} {f : List (List UInt8 × Nat)}, (∀ e ∈ l, e.2 < f.length ∧ (fileAt f e.2).2 = (fileAt f e.2).1.length) → crashF zs j l f = f
  | [], _, _, _ => rfl
  | e :: l, j, f, h => by
    obtain ⟨h1, h2⟩ := h e (List.mem_cons_self ..)
    have e1 : fileAt f e.2 = ((fileAt f e.2).1, (fileAt f e.2).1.length) := by rw [← h2]
    have e2 : cutF zs j (fileAt f e.2) = fileAt f e.2 := by rw [e1, cut_full]
    show crashF zs (j + 1) l (f.set e.2 (cutF zs j (fileAt f e.2))) = f
    rw [e2]
    have e3 : f.set e.2 (fileAt f e.2) = f := by
      have := fileAt_get h1
      obtain ⟨h3, h4⟩ := List.getElem?_eq_some_iff.1 this
      rw [← h4, List.set_getElem_self]
    rw [e3]; exact crashF_same fun x hx => h x (List.mem_cons_of_mem _ hx)
structure Still (lg : Lg) : Prop where
  begun : lg.begun = false
  cl : ∀ x ∈ lg.l, x.dirty = false
theorem syncedL_still (lg : Lg) : Still (syncedL lg) := ⟨rfl, fun x hx => by obtain ⟨y, _, rfl⟩ := List.mem_map.1 hx; rfl⟩
theorem GW.crash {lg : Lg} {D : Dk} {n t U : Nat} {rs : List (List UInt8)} (h : GW lg D n t U rs) (hs : Still lg) (zs : List Int) : crashD D zs = D := by
  have hw := h.w
  obtain ⟨h1, h2⟩ := hw.names hs.begun
  have hl : applyL D.last (D.ch.take (keptF zs 0 D.ch.length)) = D.nm := by rw [h2, h1, List.take_nil]; rfl
  have hf : crashF zs 1 D.nm D.f = D.f := crashF_same fun e he => by
    obtain ⟨i, hi⟩ := List.getElem?_of_mem he
    have hil : i < lg.l.length := by rw [← hw.len]; exact (List.getElem?_eq_some_iff.1 hi).1
    obtain ⟨x, hx⟩ : ∃ x, lg.l[i]? = some x := ⟨_, List.getElem?_eq_getElem hil⟩
    obtain ⟨e2, he2, h3, h4⟩ := hw.file i x hx
    rw [hi] at he2; cases he2
    exact ⟨(hw.dk.w.good.f e he).2, by rw [h3]; exact h4 (hs.cl x (List.mem_of_getElem? hx))⟩
  unfold crashD
  rw [hl, hf]
  obtain ⟨r, f, nm, la, ch, de, le⟩ := D
  have := hw.up.left; have := hw.up.dead
  simp only at *
  subst h1; subst h2; simp_all
theorem open_go {D : Dk} : ∀ {m : List Sg} {p : List Sg}, (∀ x ∈ m, fileS D (nameW x.first) = x) → (∀ x, m.head? = some x → p = [] → x.first ≤ 1) → (∀ x q, m.head? = some x → p.getLast? = some q → x.first = endS q + 1) → Cont (1 + (recsL p).length) m → (∀ x ∈ p, 1 ≤ x.rs.length) → (∀ q, p.getLast? = some q → endS q = (recsL p).length) → openGo 0 D (nmsW m) p = p ++ m
  | [], p, _, _, _, _, _, _ => by rw [List.append_nil]; rfl
  | x :: m, p, hf, h0, h1, ⟨hc1, hc2, hc3⟩, hp, hq => by
    have hfx := hf x (List.mem_cons_self ..)
    have hx1 : 1 ≤ x.rs.length := by
      cases hr : x.rs with
      | nil => exact absurd hr hc2
      | cons a b => rw [List.length_cons]; omega
    have hfit : fitsL p x 0 = true := by
      unfold fitsL
      rw [decide_eq_true hc2]
      cases hl : p.getLast? with
      | none =>
        have := List.getLast?_eq_none_iff.1 hl
        exact decide_eq_true (by have := h0 x rfl this; omega)
      | some q => exact decide_eq_true (h1 x q rfl hl)
    have e : openGo 0 D (nmsW (x :: m)) p = if fitsL p (fileS D (nameW x.first)) 0 = true then openGo 0 D (nmsW m) (p ++ [fileS D (nameW x.first)]) else p := rfl
    have hend : endS x = (recsL (p ++ [x])).length := by
      rw [recsL_append, recsL_one, List.length_append]; unfold endS; omega
    rw [e, hfx, if_pos hfit]
    rw [open_go (m := m) (p := p ++ [x]) (fun y hy => hf y (List.mem_cons_of_mem _ hy)) (fun y _ h => by simp at h) ?_ ?_ ?_ ?_, List.append_assoc]; rfl
    · intro y q hy hl
      rw [List.getLast?_append] at hl
      have hl : x = q := by simpa using hl
      subst hl
      cases m with
      | nil => cases hy
      | cons z m =>
        have hy : z = y := by simpa using hy
        subst hy
        have := hc3.1
        rw [this]; unfold endS; omega
    · rw [recsL_append, recsL_one, List.length_append, ← Nat.add_assoc]; exact hc3
    · intro y hy
      rcases List.mem_append.1 hy with hy | hy
      · exact hp y hy
      · rw [List.mem_singleton.1 hy]; exact hx1
    · intro q hl
      rw [List.getLast?_append] at hl
      have hl : x = q := by simpa using hl
      rw [← hl]; exact hend
theorem GW.reopen {lg : Lg} {D : Dk} {n t U : Nat} {rs : List (List UInt8)} (h : GW lg D n t U rs) (hs : Still lg) :
    openL 0 D = (⟨lg.l, false, false, lg.last, lg.last⟩, D, 0) ∧ GW ⟨lg.l, false, false, lg.last, lg.last⟩ D n t U rs ∧ ∀ q ∈ namesD D, ¬ numW q = 0 ∧ numW q ≤ 99999999 := by
  have hw := h.w
  have hnm : namesD D = nmsW lg.l := by unfold namesD; rw [if_neg (by rw [hw.up.dead]; exact Bool.noConfusion)]; exact hw.nms
  have hnum : ∀ q ∈ namesD D, ¬ numW q = 0 ∧ numW q ≤ 99999999 := fun q hq => by
    rw [hnm] at hq
    unfold nmsW at hq
    obtain ⟨x, hx, rfl⟩ := List.mem_map.1 hq
    have h1 := hw.first_le hx
    have h2 := hw.small
    rw [numW_nameW (by omega)]; omega
  have hfw : filesW D = nmsW lg.l := by rw [filesW_all fun q hq => (hnum q hq).1, hnm]
  have hgo : openGo 0 D (nmsW lg.l) [] = lg.l := by
    rw [open_go (m := lg.l) (p := []) (fun x hx => ?_) (fun x hx _ => ?_) (fun x q _ hq => by simp at hq) (by simpa [recsL] using h.c) (fun x hx => by cases hx) (fun q hq => by simp at hq), List.nil_append]
    · obtain ⟨i, hi⟩ := List.getElem?_of_mem hx
      obtain ⟨e, he, hf, h1, _⟩ := hw.find hi
      have hr : (readD D (nameW x.first)).1 = encR x.rs := by
        unfold readD; rw [if_neg (by rw [hw.up.dead]; exact Bool.noConfusion), hf]; exact h1
      have hfi := hw.first_le hx
      have := hw.small
      unfold fileS
      rw [numW_nameW (by omega), hr, recsW_enc (hw.ok.r x hx)]
      have := hs.cl x hx
      obtain ⟨a, b, c⟩ := x
      simp only at this; subst this; rfl
    · have hc := h.c
      cases hl : lg.l with
      | nil => rw [hl] at hx; cases hx
      | cons z m =>
        rw [hl] at hx hc
        have : z = x := by simpa using hx
        rw [← this, hc.1]; exact Nat.le_refl _
  have hos : openS 0 D = lg.l := by unfold openS; rw [hfw, hgo, if_neg (by omega)]
  have hlw : lastW 0 lg.l = lg.last := by
    by_cases hne : lg.l = []
    · have h1 := h.r; have h2 := h.la
      rw [hne] at h1 ⊢
      have : rs = [] := h1.symm
      rw [this] at h2; rw [h2]; rfl
    · have := hw.last hne
      unfold lastW; rw [this]; split
      · rfl
      · omega
  have hdr : (nmsW lg.l).drop lg.l.length = [] := List.drop_of_length_le (by unfold nmsW; rw [List.length_map]; exact Nat.le_refl _)
  refine ⟨?_, ⟨⟨hw.up, hw.room, ⟨hw.ok.b, hw.ok.ne, hw.ok.r, hw.ok.n, hw.ok.la, fun q => Bool.noConfusion q⟩, hw.dk, hw.few, hw.fst, hw.chain, hw.nms, hw.file, hw.used, hw.last, hw.small, fun _ => hw.names hs.begun⟩, h.c, h.r, h.la⟩, hnum⟩
  unfold openL
  rw [hos, hlw, hfw, hdr]; rfl
theorem GW.first {lg : Lg} {D : Dk} {n t U : Nat} {rs : List (List UInt8)} (h : GW lg D n t U rs) : firstL lg = 1 := by
  unfold firstL
  have hc := h.c
  have hr := h.r
  have hl := h.la
  cases hq : lg.l with
  | nil =>
    rw [hq] at hr
    have : rs = [] := hr.symm
    rw [this] at hl; rw [hl]; rfl
  | cons x m => rw [hq] at hc; exact hc.1
end Go.Proofs.YtiggkfaonnnjoaaGreatDoor.SL
