/- The log as plain data: what is left behind segments that were let go. -/
import Derived.Test.YtiggkfaonnnjoaaGreatDoorWu
namespace Go.Proofs.YtiggkfaonnnjoaaGreatDoor.SL
open Go.RowKit
set_option linter.unusedVariables false
set_option linter.unusedSimpArgs false
theorem rm_head {D : Dk} {n t : Nat} {k : List UInt8} {ks : List (List UInt8)} (hu : Up D) (hk : OkD D n t) (hn : D.nm.map (·.1) = k :: ks) : ∃ D1, removeD D k = (D1, 0) ∧ Up D1 ∧ OkD D1 (n + 1) t ∧ D1.nm = D.nm.drop 1 ∧ D1.f = D.f ∧ D1.room = D.room := by
  obtain ⟨e, r, hr⟩ : ∃ e r, D.nm = e :: r := by
    cases hq : D.nm with
    | nil => rw [hq] at hn; cases hn
    | cons e r => exact ⟨e, r, rfl⟩
  have hn2 : e.1 = k ∧ r.map (·.1) = ks := by rw [hr] at hn; exact ⟨(List.cons.inj hn).1, (List.cons.inj hn).2⟩
  have hnd := hk.w.good.s.nodup
  rw [hr] at hnd
  have hnd := List.nodup_cons.1 hnd
  have hfi : findN k D.nm = some e.2 := by rw [hr, ← hn2.1]; unfold findN; rw [if_pos rfl]
  have hap : applyN D.nm ⟨k, [], 0⟩ = r := by
    show keepN ⟨k, [], 0⟩ D.nm = r
    have e1 : keepN ⟨k, [], 0⟩ D.nm = (e :: r).filter fun e => decide (¬ e.1 = k ∧ ¬ e.1 = []) := by rw [hr]; rfl
    rw [e1, List.filter_cons, if_neg (by simp [hn2.1])]
    exact List.filter_eq_self.2 fun x hx => decide_eq_true ⟨fun hq => hnd.1 (by show e.1 ∈ r.map (·.1); rw [hn2.1, ← hq]; exact List.mem_map_of_mem hx), fileF_ne (hk.w.good.f x (by rw [hr]; exact List.mem_cons_of_mem _ hx)).1⟩
  have hrm : removeD D k = (changeD D ⟨k, [], 0⟩, 0) := by unfold removeD; rw [hu.on]; unfold remove1; rw [hfi]
  have hk1 := hk.remove (k := k)
  rw [hrm] at hk1
  exact ⟨_, hrm, ⟨hu.left, hu.dead⟩, hk1, by show applyN D.nm ⟨k, [], 0⟩ = _; rw [hap, hr]; rfl, rfl, rfl⟩
theorem rm_some : ∀ {K n t : Nat} {ks : List (List UInt8)} {D : Dk}, Up D → OkD D n t → D.nm.map (·.1) = ks → ∃ D', rmAll (ks.take K) D = (D', 0) ∧ Up D' ∧ OkD D' (n + K) t ∧ D'.nm = D.nm.drop K ∧ D'.f = D.f
  | 0, n, t, ks, D, hu, hk, hn => ⟨D, rfl, hu, hk, rfl, rfl⟩
  | K + 1, n, t, [], D, hu, hk, hn => ⟨D, rfl, hu, hk.mono (by omega) (Nat.le_refl _), by rw [List.map_eq_nil_iff.1 hn]; rfl, rfl⟩
  | K + 1, n, t, k :: ks, D, hu, hk, hn => by
    obtain ⟨D1, h1, h2, h3, h4, h5, _⟩ := rm_head hu hk hn
    obtain ⟨D', g1, g2, g3, g4, g5⟩ := rm_some (K := K) (ks := ks) h2 h3 (by rw [h4, List.map_drop, hn]; rfl)
    refine ⟨D', ?_, g2, g3.mono (by omega) (Nat.le_refl _), ?_, g5.trans h5⟩
    · show (if (removeD D k).2 = 0 then rmAll (ks.take K) (removeD D k).1 else removeD D k) = _
      rw [h1, if_pos rfl]; exact g1
    · rw [g4, h4, List.drop_drop, Nat.add_comm]
/-- All segments but the last one are full. -/
def FullL (l : List Sg) : Prop := ∀ (i : Nat) (x : Sg), l[i]? = some x → i + 1 < l.length → x.rs.length = 16
structure FW (lg : Lg) : Prop where
  full : FullL lg.l
  hand : lg.l ≠ [] → lg.hand = true
theorem FW.new : FW (lg0 []) := ⟨fun i x h => by simp [lg0] at h, fun h => absurd rfl h⟩
theorem FW.append {lg : Lg} {D : Dk} {n t U : Nat} {s : List UInt8} (h : FW lg) (hw : LWell lg D n t U) : FW (appG lg s) := by
  refine ⟨?_, fun _ => (appG_last lg s).2.2⟩
  cases hh : handS lg with
  | none =>
    unfold appG; rw [hh]
    intro i x hx hi
    change (lg.l ++ [newS (lg.last + 1) s])[i]? = some x at hx
    have hi2 : i + 1 < lg.l.length + 1 := by have : (lg.l ++ [newS (lg.last + 1) s]).length = lg.l.length + 1 := by rw [List.length_append]; rfl
                                             rw [← this]; exact hi
    rcases get_snoc hx with hx | ⟨he, _⟩
    · rcases Nat.lt_or_ge (i + 1) lg.l.length with h1 | h1
      · exact h.full i x hx h1
      · have hne : lg.l ≠ [] := fun h0 => by rw [h0] at hx; simp at hx
        have hlast : lg.l[lg.l.length - 1]? = some x := by rw [show lg.l.length - 1 = i by omega]; exact hx
        have h2 := hw.few x (List.mem_of_getElem? hx)
        rcases Nat.lt_or_ge x.rs.length 16 with h3 | h3
        · rw [handS_room (h.hand hne) hlast h3] at hh; cases hh
        · omega
    · omega
  | some z =>
    obtain ⟨hz, _⟩ := handS_some hh
    have hne : lg.l ≠ [] := fun h0 => by rw [h0] at hz; simp at hz
    unfold appG; rw [hh]
    intro i x hx hi
    change (lg.l.dropLast ++ [moreS z s])[i]? = some x at hx
    have hlen : (lg.l.dropLast ++ [moreS z s]).length = lg.l.length := by rw [← set_last hne, List.length_set]
    have hi2 : i + 1 < lg.l.length := by rw [← hlen]; exact hi
    rcases get_last hz hx with ⟨_, hx⟩ | ⟨he, _⟩
    · exact h.full i x hx hi2
    · omega
theorem FW.sync {lg : Lg} (h : FW lg) : FullL (syncedL lg).l := fun i x hx hi => by
  obtain ⟨y, hy, rfl⟩ := map_clean_get hx
  exact h.full i y hy (by have : (lg.l.map clean).length = lg.l.length := List.length_map ..
                          rw [← this]; exact hi)
theorem first_at : ∀ {l : List Sg} {a i : Nat} {x : Sg}, Cont a l → FullL l → l[i]? = some x → x.first = a + 16 * i
  | [], a, i, x, _, _, h => by simp at h
  | z :: l, a, 0, x, hc, _, h => by simp at h; rw [← h]; exact hc.1
  | z :: l, a, i + 1, x, hc, hf, h => by
    have hl : l[i]? = some x := by simpa using h
    have hlt := (List.getElem?_eq_some_iff.1 hl).1
    have h16 := hf 0 z rfl (by rw [List.length_cons]; omega)
    have := first_at (i := i) hc.2.2 (fun j y hy hj => hf (j + 1) y (by simpa using hy) (by rw [List.length_cons]; omega)) hl
    rw [this, h16]; omega
theorem cont_drop : ∀ {l : List Sg} {a K : Nat}, Cont a l → FullL l → K < l.length → Cont (a + 16 * K) (l.drop K) ∧ recsL (l.drop K) = (recsL l).drop (16 * K)
  | l, a, 0, hc, _, _ => ⟨hc, rfl⟩
  | [], a, K + 1, _, _, h => by simp at h
  | z :: l, a, K + 1, hc, hf, h => by
    rw [List.length_cons] at h
    have h16 := hf 0 z rfl (by rw [List.length_cons]; omega)
    obtain ⟨h1, h2⟩ := cont_drop (l := l) (K := K) hc.2.2 (fun j y hy hj => hf (j + 1) y (by simpa using hy) (by rw [List.length_cons]; omega)) (by omega)
    rw [h16] at h1
    refine ⟨by rw [show a + 16 * (K + 1) = a + 16 + 16 * K by omega]; exact h1, ?_⟩
    show recsL (l.drop K) = (z.rs ++ recsL l).drop (16 * (K + 1))
    rw [h2, List.drop_append, h16, List.drop_of_length_le (l := z.rs) (by omega), show 16 * (K + 1) - 16 = 16 * K by omega]; rfl
theorem cont_none : ∀ {l : List Sg} {a : Nat} {n : Int}, Cont a l → n < a → readL l n = ([], 12)
  | [], _, _, _, _ => rfl
  | x :: l, a, n, ⟨h1, h2, h3⟩, hn => by
    unfold readL
    rw [if_neg (by rw [h1]; omega)]
    exact cont_none h3 (by omega)
def restL (lg : Lg) (nb : Int) : Lg := ⟨lg.l.drop (dropC nb lg.l), lg.hand, lg.begun, lg.last, lg.durable⟩
def restD (lg : Lg) (D : Dk) (nb : Int) : Dk := if dropC nb lg.l = 0 then D else (syncNamesD (rmAll (nmsW (lg.l.take (dropC nb lg.l))) D).1).1
/-- What is left behind DropBefore. -/
theorem GW.drop {lg : Lg} {D : Dk} {n t U : Nat} {rs : List (List UInt8)} (h : GW lg D n t U rs) (hf : FullL lg.l) (nb : Int) (hne : lg.l ≠ []) :
    (rmAll (nmsW (lg.l.take (dropC nb lg.l))) D).2 = 0 ∧ (syncNamesD (rmAll (nmsW (lg.l.take (dropC nb lg.l))) D).1).2 = 0 ∧ OkL (restL lg nb) ∧ OkD (restD lg D nb) (n + lg.l.length) t ∧ FilesL (restL lg nb) (restD lg D nb) ∧
    ∃ fr : Nat, firstL (restL lg nb) = fr ∧ 1 ≤ fr ∧ fr ≤ rs.length ∧ fr % 16 = 1 ∧ (fr = 1 ∨ (fr : Int) ≤ nb) ∧ (∀ k r, fr ≤ k + 1 → rs[k]? = some r → readL (restL lg nb).l ((k : Int) + 1) = (r, 0)) ∧ readL (restL lg nb).l ((fr : Int) - 1) = ([], 12) := by
  have hw := h.w
  obtain ⟨K, hK⟩ : ∃ K, dropC nb lg.l = K := ⟨_, rfl⟩
  have hKl : K < lg.l.length := by rw [← hK]; exact dropC_lt nb lg.l hne
  have hnm : nmsW (lg.l.take K) = (nmsW lg.l).take K := by unfold nmsW; rw [List.map_take]
  obtain ⟨D1, h1, h2, h3, h4, h5⟩ := rm_some (K := K) hw.up hw.dk hw.nms
  rw [← hnm] at h1
  have hs : syncNamesD D1 = ({ D1 with last := D1.nm, ch := [] }, 0) := by unfold syncNamesD; rw [h2.on]; rfl
  have hD : ∃ D2, restD lg D nb = D2 ∧ Up D2 ∧ OkD D2 (n + K) t ∧ D2.nm = D.nm.drop K ∧ D2.f = D.f := by
    unfold restD; rw [hK, h1, hs]
    by_cases h0 : K = 0
    · rw [if_pos h0]; exact ⟨D, rfl, hw.up, hw.dk.mono (by omega) (Nat.le_refl _), by rw [h0]; rfl, rfl⟩
    · rw [if_neg h0]
      have hk := h3.syncNames
      rw [hs] at hk
      exact ⟨_, rfl, ⟨h2.left, h2.dead⟩, hk, h4, h5⟩
  obtain ⟨D2, e2, u2, k2, n2, f2⟩ := hD
  obtain ⟨hc, hr⟩ := cont_drop h.c hf hKl
  obtain ⟨x, hx⟩ : ∃ x, lg.l[K]? = some x := ⟨_, List.getElem?_eq_getElem hKl⟩
  have hxf := first_at h.c hf hx
  have hxm := List.mem_of_getElem? hx
  have hxo := hw.ok.one hx
  have hxe := (hw.fst x hxm).2
  have hfi : firstL (restL lg nb) = 1 + 16 * K := by
    unfold firstL restL; rw [hK]
    rw [List.drop_eq_getElem_cons hKl]
    have := (List.getElem?_eq_some_iff.1 hx).2
    show (lg.l[K]).first = _
    rw [this, hxf]
  have hll : (restL lg nb).l = lg.l.drop K := by unfold restL; rw [hK]
  rw [hK, h1, hs, e2]
  refine ⟨rfl, rfl, ?_, k2.mono (by omega) (Nat.le_refl _), ?_, 1 + 16 * K, hfi, by omega, ?_, by omega, ?_, ?_, ?_⟩
  · refine ⟨fun z hz => hw.ok.b z (List.mem_of_mem_drop (hll ▸ hz)), fun z hz => hw.ok.ne z (List.mem_of_mem_drop (hll ▸ hz)), fun z hz => hw.ok.r z (List.mem_of_mem_drop (hll ▸ hz)), by rw [hll, List.length_drop]; have := hw.ok.n; omega, hw.ok.la, fun _ h0 => ?_⟩
    rw [hll] at h0
    have := congrArg List.length h0
    rw [List.length_drop, List.length_nil] at this; omega
  · intro z hz
    rw [hll] at hz
    obtain ⟨i, hi⟩ := List.getElem?_of_mem hz
    rw [List.getElem?_drop] at hi
    obtain ⟨e, he, hq, _⟩ := hw.file (K + i) z hi
    have hen := hw.name hi he
    refine ⟨[], ?_⟩
    have he2 : D2.nm[i]? = some e := by rw [n2, List.getElem?_drop]; exact he
    unfold readD
    rw [if_neg (by rw [u2.dead]; exact Bool.noConfusion), ← hen, findN_at k2.w.good.s.nodup he2, List.append_nil]
    show ((fileAt D2.f e.2).1, (0 : Int)) = _
    rw [f2, hq]
  · rw [← h.la]
    unfold endS at hxe
    omega
  · by_cases h0 : K = 0
    · left; omega
    · right
      obtain ⟨z, hz⟩ : ∃ z, lg.l[K - 1]? = some z := ⟨_, List.getElem?_eq_getElem (by omega)⟩
      have h6 := dropC_at nb lg.l (K - 1) z (by omega) hz
      have h7 := hf (K - 1) z hz (by omega)
      have h8 := first_at h.c hf hz
      unfold endS at h6
      omega
  · intro k r hk hrk
    rw [hll]
    exact cont_read hc (by omega) (by rw [hr, List.getElem?_drop, h.r, show 16 * K + ((k : Int) + 1 - ((1 + 16 * K : Nat) : Int)).toNat = k by omega]; exact hrk)
  · rw [hll]; exact cont_none hc (by omega)
theorem GW.count {lg : Lg} {D : Dk} {n t U : Nat} {rs : List (List UInt8)} (h : GW lg D n t U rs) (hf : FullL lg.l) : 16 * lg.l.length ≤ lg.last + 16 := by
  rcases Nat.eq_zero_or_pos lg.l.length with h0 | h0
  · omega
  · obtain ⟨x, hx⟩ : ∃ x, lg.l[lg.l.length - 1]? = some x := ⟨_, List.getElem?_eq_getElem (by omega)⟩
    have h1 := first_at h.c hf hx
    have h2 := (h.w.first_le (List.mem_of_getElem? hx)).2
    omega
def bw (i : Nat) : List UInt8 := [UInt8.ofNat (i + 1)]
def bws (n : Nat) : List (List UInt8) := (List.range n).map bw
theorem bws_succ (n : Nat) : bws (n + 1) = bws n ++ [bw n] := by unfold bws; rw [List.range_succ, List.map_append]; rfl
theorem bws_length (n : Nat) : (bws n).length = n := by unfold bws; rw [List.length_map, List.length_range]
theorem bws_get {n k : Nat} (h : k < n) : (bws n)[k]? = some (bw k) := by unfold bws; rw [List.getElem?_map, List.getElem?_range h]; rfl
end Go.Proofs.YtiggkfaonnnjoaaGreatDoor.SL
