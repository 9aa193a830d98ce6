import Derived.Test.YtidoidoelgfnaaaGreatDoorBk
import Derived.Test.YtidoidoelgfnaaaGreatDoorKj1M
/- Nothing is lost: a history cut into blocks, and its head (plain). -/
namespace Go.Proofs.YtidoidoelgfnaaaGreatDoor.SL
open Go.RowKit
set_option linter.unusedVariables false
/-! Rows told by what stands at labels. -/
def lkF : List RowP → List Pr → Option (Int × List Pt)
  | [], _ => none
  | r :: l, q => if r.lb = q then some (r.last, r.pts) else lkF l q
theorem lkF_none {q : List Pr} : ∀ {A : List RowP}, (∀ r ∈ A, r.lb ≠ q) → lkF A q = none
  | [], _ => rfl
  | r :: l, h => by rw [lkF, if_neg (h r (by simp))]; exact lkF_none fun x hx => h x (by simp [hx])
theorem lkF_mem {A : List RowP} (hs : SrtR A) {r : RowP} (hr : r ∈ A) : lkF A r.lb = some (r.last, r.pts) := by
  induction A with
  | nil => cases hr
  | cons z l ih =>
    rw [lkF]
    split
    · rename_i e; rw [srt_one hs (List.mem_cons_self ..) hr e]
    · rename_i e
      rcases List.mem_cons.1 hr with h | h
      · exact absurd (by rw [h]) e
      · exact ih (List.pairwise_cons.1 hs).2 h
theorem lkF_some {q : List Pr} {t : Int} {ps : List Pt} : ∀ {A : List RowP}, lkF A q = some (t, ps) → (⟨q, t, ps⟩ : RowP) ∈ A
  | [], h => by cases h
  | z :: l, h => by
    rw [lkF] at h
    split at h
    · rename_i e; cases h; rw [← e]; exact List.mem_cons_self ..
    · exact List.mem_cons_of_mem _ (lkF_some h)
theorem lk_ext {A C : List RowP} (hA : SrtR A) (hC : SrtR C) (h : ∀ q, lkF A q = lkF C q) : A = C := by
  have n1 : A.Nodup := hA.imp fun {a b} k e => by rw [e, cmp_self] at k; omega
  have n2 : C.Nodup := hC.imp fun {a b} k e => by rw [e, cmp_self] at k; omega
  refine sorted_eq hC ((List.perm_ext_iff_of_nodup n1 n2).2 fun r => ⟨fun k => ?_, fun k => ?_⟩) (hA.imp fun {a b} k => by have := cmp_anti a.lb b.lb; omega)
  · have := lkF_mem hA k; rw [h] at this; exact lkF_some this
  · have := lkF_mem hC k; rw [← h] at this; exact lkF_some this
def addO (o : Option (Int × List Pt)) (t : Int) (ps : List Pt) : Int × List Pt := match o with
  | some (u, qs) => (max u t, qs ++ ps)
  | none => (t, ps)
theorem lk_add {lb q : List Pr} {t : Int} {ps : List Pt} : ∀ {S : List RowP}, SrtR S → lkF (addF S lb t ps) q = if lb = q then some (addO (lkF S lb) t ps) else lkF S q
  | [], _ => rfl
  | r :: l, hs => by
    rw [addF]
    split
    · rename_i h
      have hne : ¬ r.lb = lb := fun e => by rw [e, cmp_self] at h; omega
      rw [lkF, lkF, lkF, if_neg hne, lk_add (List.pairwise_cons.1 hs).2]
      by_cases e : r.lb = q
      · rw [if_pos e, if_pos e, if_neg (fun k => hne (e.trans k.symm))]
      · rw [if_neg e, if_neg e]
    · split
      · rename_i h
        have e := cmp_zero h
        rw [lkF, lkF, lkF, if_pos e, e]
        by_cases k : lb = q
        · rw [if_pos k, if_pos k]; rfl
        · rw [if_neg k, if_neg k, if_neg k]
      · rename_i h1 h2
        have hn : lkF (r :: l) lb = none := by
          refine lkF_none fun x hx e => ?_
          have hlt : cmpF lb r.lb < 0 := by have := cmp_anti r.lb lb; omega
          rcases List.mem_cons.1 hx with e' | hx
          · rw [e'] at e; rw [e, cmp_self] at hlt; omega
          · have := cmp_tr hlt ((List.pairwise_cons.1 hs).1 x hx); rw [e, cmp_self] at this; omega
        rw [lkF]
        by_cases k : lb = q
        · rw [if_pos k, if_pos k, hn]; rfl
        · rw [if_neg k, if_neg k]
/-- One row's points behind another one's. -/
def comb (h s : Option (Int × List Pt)) : Option (Int × List Pt) := match h with
  | none => s
  | some (t, ps) => some (addO s t ps)
theorem keep_nil (lb : List Pr) (ps : List Pt) : (ps.filter fun p => !goneF [] lb p.t) = ps := List.filter_eq_self.2 fun p _ => rfl
theorem rowsA_srt {d : List RcP} : ∀ {H S : List RowP}, SrtR S → SrtR (rowsA d H S)
  | [], S, h => h
  | x :: xs, S, h => by rw [rowsA]; exact rowsA_srt (addF_srt h)
theorem lk_rows : ∀ {H S : List RowP} {q : List Pr}, SrtR H → SrtR S → lkF (rowsA [] H S) q = comb (lkF H q) (lkF S q)
  | [], S, q, _, _ => rfl
  | x :: xs, S, q, hH, hS => by
    have hh := List.pairwise_cons.1 hH
    rw [rowsA, keep_nil, lk_rows hh.2 (addF_srt hS), lk_add hS, lkF]
    by_cases e : x.lb = q
    · have hn : lkF xs q = none := lkF_none fun y hy k => by have := hh.1 y hy; rw [e, k, cmp_self] at this; omega
      rw [if_pos e, if_pos e, hn, e]; rfl
    · rw [if_neg e, if_neg e]
/-- Points that deletes leave. -/
def keepG (d : List RcP) (r : RowP) : RowP := ⟨r.lb, r.last, r.pts.filter fun p => !goneF d r.lb p.t⟩
def delG (d : List RcP) (W : List RowP) : List RowP := W.map (keepG d)
theorem srt_map {g : RowP → RowP} (hg : ∀ r, (g r).lb = r.lb) {W : List RowP} (h : SrtR W) : SrtR (W.map g) := by
  unfold SrtR; rw [List.pairwise_map]; exact h.imp fun {a b} k => by rw [hg, hg]; exact k
theorem lk_map {g : RowP → RowP} (hg : ∀ r, (g r).lb = r.lb) {f : List Pr → List Pt → List Pt} (hf : ∀ r, (g r).last = r.last ∧ (g r).pts = f r.lb r.pts) : ∀ {W : List RowP} {q : List Pr}, lkF (W.map g) q = (lkF W q).map fun x => (x.1, f q x.2)
  | [], _ => rfl
  | r :: l, q => by
    rw [List.map_cons, lkF, lkF, hg]
    by_cases e : r.lb = q
    · rw [if_pos e, if_pos e, (hf r).1, (hf r).2, e]; rfl
    · rw [if_neg e, if_neg e, lk_map hg hf]
theorem lk_delG {d : List RcP} {W : List RowP} {q : List Pr} : lkF (delG d W) q = (lkF W q).map fun x => (x.1, x.2.filter fun p => !goneF d q p.t) :=
  lk_map (g := keepG d) (f := fun q ps => ps.filter fun p => !goneF d q p.t) (fun _ => rfl) fun r => ⟨rfl, rfl⟩
def outD (fr to : Int) (ms : List Mt) (q : List Pr) (ps : List Pt) : List Pt := if isF ms q = true then ps.filter (fun p => !(decide (fr ≤ p.t ∧ p.t ≤ to))) else ps
theorem lk_delF {fr to : Int} {ms : List Mt} {A : List RowP} {q : List Pr} : lkF (delF fr to ms A) q = (lkF A q).map fun x => (x.1, outD fr to ms q x.2) :=
  lk_map (g := delR fr to ms) (f := outD fr to ms) (fun r => by unfold delR; split <;> rfl) fun r => by unfold delR outD; split <;> exact ⟨rfl, rfl⟩
theorem srt_delF {fr to : Int} {ms : List Mt} {A : List RowP} (h : SrtR A) : SrtR (delF fr to ms A) := srt_map (g := delR fr to ms) (fun r => by unfold delR; split <;> rfl) h
theorem srt_delG {d : List RcP} {A : List RowP} (h : SrtR A) : SrtR (delG d A) := srt_map (g := keepG d) (fun _ => rfl) h
theorem outD_app (fr to : Int) (ms : List Mt) (q : List Pr) (a b : List Pt) : outD fr to ms q (a ++ b) = outD fr to ms q a ++ outD fr to ms q b := by
  unfold outD; split
  · rw [List.filter_append]
  · rfl
/-! A span's head over what was there. -/
theorem add_over {H X : List RowP} {lb : List Pr} {t : Int} {ps : List Pt} (hH : SrtR H) (hX : SrtR X) : addF (rowsA [] H X) lb t ps = rowsA [] (addF H lb t ps) X := by
  refine lk_ext (addF_srt (rowsA_srt hX)) (rowsA_srt hX) fun q => ?_
  rw [lk_add (rowsA_srt hX), lk_rows (addF_srt hH) hX, lk_add hH, lk_rows hH hX, lk_rows hH hX]
  by_cases e : lb = q
  · rw [if_pos e, if_pos e, ← e]
    cases lkF H lb with
    | none => cases lkF X lb <;> rfl
    | some h =>
      cases lkF X lb with
      | none => rfl
      | some x =>
        show some (max (max x.1 h.1) t, (x.2 ++ h.2) ++ ps) = some (max x.1 (max h.1 t), x.2 ++ (h.2 ++ ps))
        rw [Int.max_assoc, List.append_assoc]
  · rw [if_neg e, if_neg e]
theorem del_over {H X : List RowP} {fr to : Int} {ms : List Mt} (hH : SrtR H) (hX : SrtR X) : delF fr to ms (rowsA [] H X) = rowsA [] (delF fr to ms H) (delF fr to ms X) := by
  refine lk_ext (srt_delF (rowsA_srt hX)) (rowsA_srt (srt_delF hX)) fun q => ?_
  rw [lk_delF, lk_rows hH hX, lk_rows (srt_delF hH) (srt_delF hX), lk_delF, lk_delF]
  cases lkF H q with
  | none => rfl
  | some h =>
    cases lkF X q with
    | none => rfl
    | some x =>
      show some (max x.1 h.1, outD fr to ms q (x.2 ++ h.2)) = some (max x.1 h.1, outD fr to ms q x.2 ++ outD fr to ms q h.2)
      rw [outD_app]
theorem delG_more {d : List RcP} {r : RcP} {W : List RowP} (hW : SrtR W) : delF r.fr r.to r.ms (delG d W) = delG (d ++ [r]) W := by
  refine lk_ext (srt_delF (srt_delG hW)) (srt_delG hW) fun q => ?_
  rw [lk_delF, lk_delG, lk_delG]
  cases lkF W q with
  | none => rfl
  | some x =>
    show some (x.1, outD r.fr r.to r.ms q (x.2.filter fun p => !goneF d q p.t)) = some (x.1, x.2.filter fun p => !goneF (d ++ [r]) q p.t)
    congr 2
    have hg : ∀ t, goneF (d ++ [r]) q t = (goneF d q t || (decide (r.fr ≤ t ∧ t ≤ r.to) && isF r.ms q)) := fun t => by unfold goneF; rw [List.any_append]; simp
    unfold outD
    split
    · rename_i h
      rw [List.filter_filter]
      refine List.filter_congr fun p _ => ?_
      rw [hg, h, Bool.and_true, Bool.not_or, Bool.and_comm]
    · rename_i h
      refine List.filter_congr fun p _ => ?_
      rw [hg, show isF r.ms q = false by simpa using h, Bool.and_false, Bool.or_false]
theorem delG_nil (W : List RowP) : delG [] W = W := by
  unfold delG
  exact List.map_id'' (fun r => by unfold keepG; rw [keep_nil]) W
theorem last_lk {A : List RowP} {q : List Pr} : lastF A q = (lkF A q).map (·.1) := by
  induction A with
  | nil => rfl
  | cons r l ih => rw [lastF, lkF, ih]; split <;> rfl
theorem old_over {H X : List RowP} {s : SmpP} (hH : SrtR H) (hX : SrtR X) (h : oldF (rowsA [] H X) s = false) : oldF H s = false ∧ ∀ u, lastF X s.1 = some u → u < s.2.1 := by
  unfold oldF at h ⊢
  rw [last_lk, lk_rows hH hX] at h
  rw [last_lk]
  cases hh : lkF H s.1 with
  | none =>
    rw [hh] at h
    refine ⟨rfl, fun u hu => ?_⟩
    rw [last_lk] at hu
    cases hx : lkF X s.1 with
    | none => rw [hx] at hu; cases hu
    | some x => rw [hx] at h hu; cases hu; have h9 : decide (s.2.1 ≤ x.1) = false := h; exact Int.not_le.1 (of_decide_eq_false h9)
  | some y =>
    rw [hh] at h
    cases hx : lkF X s.1 with
    | none =>
      rw [hx] at h
      exact ⟨h, fun u hu => by rw [last_lk, hx] at hu; cases hu⟩
    | some x =>
      rw [hx] at h
      have h9 : decide (s.2.1 ≤ max x.1 y.1) = false := h
      have h8 := of_decide_eq_false h9
      refine ⟨decide_eq_false (fun k => h8 (Int.le_trans k (Int.le_max_right ..))), fun u hu => ?_⟩
      rw [last_lk, hx] at hu; cases hu
      exact Int.not_le.1 fun k => h8 (Int.le_trans k (Int.le_max_left ..))
end Go.Proofs.YtidoidoelgfnaaaGreatDoor.SL

/- Nothing is lost: spans of a history one behind the other (plain). -/
namespace Go.Proofs.YtidoidoelgfnaaaGreatDoor.SL
open Go.RowKit
set_option linter.unusedVariables false
/-- A span's points come behind what was there. -/
def Low (H : List RowP) (lst : List Pr → Option Int) : Prop := ∀ r ∈ H, ∀ p ∈ r.pts, ∀ u, lst r.lb = some u → u < p.t
theorem low_nil (lst : List Pr → Option Int) : Low [] lst := fun r h => by cases h
theorem low_add {H : List RowP} {lst : List Pr → Option Int} {s : SmpP} (h : Low H lst) (hs : ∀ u, lst s.1 = some u → u < s.2.1) : Low (addF H s.1 s.2.1 [⟨s.2.1, s.2.2⟩]) lst := fun x hx p hp u hu => by
  rcases addF_mem hx with hx | rfl | ⟨r, hr, e, rfl⟩
  · exact h x hx p hp u hu
  · simp at hp; subst hp; exact hs u hu
  · rcases List.mem_append.1 hp with hp | hp
    · exact h r hr p hp u hu
    · simp at hp; subst hp; exact hs u (by rw [← e]; exact hu)
theorem low_del {H : List RowP} {lst : List Pr → Option Int} {fr to : Int} {ms : List Mt} (h : Low H lst) : Low (delF fr to ms H) lst := fun x hx p hp u hu => by
  obtain ⟨y, hy, rfl⟩ := List.mem_map.1 hx
  unfold delR at hp hu
  split at hp
  · rename_i k; rw [if_pos k] at hu; exact h y hy p (List.mem_filter.1 hp).1 u hu
  · rename_i k; rw [if_neg k] at hu; exact h y hy p hp u hu
theorem put_over {ss : List SmpP} : ∀ {H X Y : List RowP}, SrtR H → SrtR X → Low H (lastF X) → putAll (rowsA [] H X) ss = some Y → ∃ H', putAll H ss = some H' ∧ Y = rowsA [] H' X ∧ SrtR H' ∧ Low H' (lastF X) := by
  induction ss with
  | nil => intro H X Y hH hX hL h; rw [putAll] at h; cases h; exact ⟨H, rfl, rfl, hH, hL⟩
  | cons s l ih =>
    intro H X Y hH hX hL h
    rw [putAll] at h
    split at h
    · cases h
    · rename_i ho
      obtain ⟨h1, h2⟩ := old_over hH hX (by simpa using ho)
      rw [add_over hH hX] at h
      obtain ⟨H', k1, k2, k3, k4⟩ := ih (addF_srt hH) hX (low_add hL h2) h
      exact ⟨H', by rw [putAll, if_neg (by rw [h1]; decide)]; exact k1, k2, k3, k4⟩
theorem over_len {H X : List RowP} (hH : SrtR H) (hX : SrtR X) : H.length ≤ (rowsA [] H X).length := by
  have := nodup_len (l := H.map RowP.lb) (m := (rowsA [] H X).map RowP.lb) (by unfold List.Nodup; rw [List.pairwise_map]; exact hH.imp fun {a b} k e => by rw [e, cmp_self] at k; omega) fun q hq => by
    obtain ⟨r, hr, rfl⟩ := List.mem_map.1 hq
    have h1 := lk_rows (q := r.lb) hH hX
    rw [lkF_mem hH hr] at h1
    exact List.mem_map.2 ⟨_, lkF_some h1, rfl⟩
  rwa [List.length_map, List.length_map] at this
theorem apply_over {H X : List RowP} {r : RcP} (hH : SrtR H) (hX : SrtR X) (hL : Low H (lastF X)) (ht : tryP (rowsA [] H X) r = 0) :
    tryP H r = 0 ∧ applyP (rowsA [] H X) r = rowsA [] (applyP H r) (if r.k = 2 then delF r.fr r.to r.ms X else X) ∧ SrtR (applyP H r) ∧ Low (applyP H r) (lastF X) := by
  obtain ⟨hc, A1, h1, h2⟩ := try_zero ht
  obtain ⟨H', k1, k2, k3, k4⟩ := put_over hH hX hL h1
  have hl := over_len k3 hX
  rw [← k2] at hl
  have hth : tryP H r = 0 := by unfold tryP; rw [hc, tryF_ok k1, if_neg (by omega)]
  have ha : applyP (rowsA [] H X) r = if r.k = 2 then delF r.fr r.to r.ms A1 else A1 := apply_ok (r := r) ht h1
  have hb : applyP H r = if r.k = 2 then delF r.fr r.to r.ms H' else H' := apply_ok (r := r) hth k1
  refine ⟨hth, ?_, ?_, ?_⟩
  · rw [ha, hb, k2]
    split
    · exact del_over k3 hX
    · rfl
  · rw [hb]; split
    · exact srt_delF k3
    · exact k3
  · rw [hb]; split
    · exact low_del k4
    · exact k4
theorem last_delG {d : List RcP} {W : List RowP} : lastF (delG d W) = lastF W := by
  funext q
  rw [last_lk, last_lk, lk_delG]
  cases lkF W q <;> rfl
theorem run_over {W : List RowP} (hW : SrtR W) {c : List RcP} : ∀ {H W' : List RowP} {d : List RcP}, SrtR H → Low H (lastF W) → runP (rowsA [] H (delG d W)) c = (0, W') →
    ∃ H', runP H c = (0, H') ∧ W' = rowsA [] H' (delG (d ++ delsOf c) W) ∧ SrtR H' ∧ Low H' (lastF W) := by
  induction c with
  | nil => intro H W' d hH hL h; rw [runP] at h; cases h; exact ⟨H, rfl, by rw [show delsOf [] = [] from rfl, List.append_nil], hH, hL⟩
  | cons r l ih =>
    intro H W' d hH hL h
    rw [runP] at h
    split at h
    · rename_i ht
      obtain ⟨h1, h2, h3, h4⟩ := apply_over hH (srt_delG hW) (by rw [last_delG]; exact hL) ht
      rw [h2] at h
      rw [last_delG] at h4
      by_cases hk : r.k = 2
      · rw [if_pos hk, delG_more hW] at h
        obtain ⟨H', k1, k2, k3, k4⟩ := ih h3 h4 h
        exact ⟨H', by rw [runP, if_pos h1]; exact k1, by rw [k2, show delsOf (r :: l) = r :: delsOf l by unfold delsOf; rw [List.filter_cons, if_pos (by simpa using hk)], List.append_assoc]; rfl, k3, k4⟩
      · rw [if_neg hk] at h
        obtain ⟨H', k1, k2, k3, k4⟩ := ih h3 h4 h
        exact ⟨H', by rw [runP, if_pos h1]; exact k1, by rw [k2, show delsOf (r :: l) = delsOf l by unfold delsOf; rw [List.filter_cons, if_neg (by simpa using hk)]], k3, k4⟩
    · rename_i ht
      exact absurd (congrArg Prod.fst h) ht
theorem run_span {W W' : List RowP} {c : List RcP} (hW : SrtR W) (h : runP W c = (0, W')) : ∃ H, runP [] c = (0, H) ∧ W' = rowsA [] H (delG (delsOf c) W) ∧ SrtR H ∧ Low H (lastF W) := by
  have := run_over hW (H := []) (d := []) (c := c) List.Pairwise.nil (low_nil _) (by rw [delG_nil]; exact h)
  simpa using this
theorem runP_app {l : List RcP} : ∀ {c : List RcP} {W W' : List RowP}, runP W (c ++ l) = (0, W') → ∃ W1, runP W c = (0, W1) ∧ runP W1 l = (0, W')
  | [], W, W', h => ⟨W, rfl, h⟩
  | r :: c, W, W', h => by
    rw [List.cons_append, runP] at h
    split at h
    · rename_i ht
      obtain ⟨W1, h1, h2⟩ := runP_app h
      exact ⟨W1, by rw [runP, if_pos ht]; exact h1, h2⟩
    · rename_i ht; exact absurd (congrArg Prod.fst h) ht
theorem runP_srt {c : List RcP} : ∀ {W : List RowP}, SrtR W → SrtR (runP W c).2 := by
  induction c with
  | nil => intro W h; exact h
  | cons r l ih =>
    intro W h
    rw [runP]
    split
    · rename_i ht
      obtain ⟨hc, A1, h1, _⟩ := try_zero ht
      refine ih ?_
      have hs : ∀ {ss : List SmpP} {A A2 : List RowP}, SrtR A → putAll A ss = some A2 → SrtR A2 := by
        intro ss
        induction ss with
        | nil => intro A A2 k e; rw [putAll] at e; cases e; exact k
        | cons s l ih => intro A A2 k e; rw [putAll] at e; split at e; (· cases e); (· exact ih (addF_srt k) e)
      rw [show applyP W r = _ from apply_ok (r := r) ht h1]
      split
      · exact srt_delF (hs h h1)
      · exact hs h h1
    · exact h
/-! Blocks one behind the other. -/
theorem addF_G {e : List RcP} {lb : List Pr} {t : Int} {ps : List Pt} : ∀ S : List RowP, addF (delG e S) lb t (ps.filter fun p => !goneF e lb p.t) = delG e (addF S lb t ps)
  | [] => rfl
  | r :: l => by
    show addF (keepG e r :: delG e l) lb t _ = _
    rw [addF, addF]
    show (if cmpF r.lb lb < 0 then _ else if cmpF r.lb lb = 0 then _ else _) = _
    split
    · rw [addF_G l]; rfl
    · split
      · rename_i h
        show _ = keepG e ⟨r.lb, max r.last t, r.pts ++ ps⟩ :: delG e l
        have := cmp_zero h
        subst this
        simp [keepG]
      · rfl
theorem rows_G {d e x : List RcP} (hx : ∀ lb t, goneF x lb t = (goneF d lb t || goneF e lb t)) : ∀ {H S : List RowP}, rowsA x H (delG e S) = delG e (rowsA d H S)
  | [], S => rfl
  | r :: l, S => by
    rw [rowsA, rowsA, ← rows_G hx (H := l), ← addF_G]
    congr 2
    rw [List.filter_filter]
    refine List.filter_congr fun p _ => ?_
    rw [hx, Bool.not_or, Bool.and_comm]
theorem gone_app (d e : List RcP) (lb : List Pr) (t : Int) : goneF (d ++ e) lb t = (goneF d lb t || goneF e lb t) := by unfold goneF; rw [List.any_append]
theorem left_G {e : List RcP} : ∀ {bs : List BlkP} {S : List RowP}, leftA e bs (delG e S) = delG e (leftA [] bs S)
  | [], S => rfl
  | b :: bs, S => by
    rw [leftA, leftA, ← left_G (bs := bs)]
    congr 1
    exact rows_G (d := [] ++ bs.flatMap (·.dels)) fun lb t => by rw [gone_app, List.nil_append, Bool.or_comm]
theorem rows_congr {d x : List RcP} (hx : ∀ lb t, goneF x lb t = goneF d lb t) : ∀ {H S : List RowP}, rowsA x H S = rowsA d H S
  | [], S => rfl
  | r :: l, S => by
    rw [rowsA, rowsA, rows_congr hx (H := l)]
    congr 2
    exact List.filter_congr fun p _ => by rw [hx]
theorem left_snoc {b : BlkP} : ∀ {bs : List BlkP} {S : List RowP}, leftA [] (bs ++ [b]) S = rowsA [] b.rows (leftA b.dels bs S)
  | [], S => rfl
  | c :: bs, S => by
    rw [List.cons_append, leftA, leftA, left_snoc (bs := bs)]
    congr 2
    refine rows_congr fun lb t => ?_
    rw [List.flatMap_append, List.nil_append, gone_app, gone_app, Bool.or_comm]
    simp
theorem left_more {b : BlkP} {bs : List BlkP} : leftA [] (bs ++ [b]) [] = rowsA [] b.rows (delG b.dels (leftA [] bs [])) := by
  rw [left_snoc, ← left_G]; rfl
theorem left_srt {d : List RcP} : ∀ {bs : List BlkP} {S : List RowP}, SrtR S → SrtR (leftA d bs S)
  | [], S, h => h
  | b :: bs, S, h => by rw [leftA]; exact left_srt (rowsA_srt h)
/-- A history's blocks. -/
def blocksOf : Int → List (List RcP) → List BlkP
  | _, [] => []
  | f, c :: cs => ofB f c :: blocksOf (f + (c.length : Int)) cs
theorem hist_left {cs : List (List RcP)} : ∀ {bs : List BlkP} {W' : List RowP} {f : Int}, runP (leftA [] bs []) cs.flatten = (0, W') → leftA [] (bs ++ blocksOf f cs) [] = W' := by
  induction cs with
  | nil => intro bs W' f h; rw [List.flatten_nil, runP] at h; cases h; rw [blocksOf, List.append_nil]
  | cons c cs ih =>
    intro bs W' f h
    rw [List.flatten_cons] at h
    obtain ⟨W1, h1, h2⟩ := runP_app h
    obtain ⟨H, k1, k2, _, _⟩ := run_span (left_srt List.Pairwise.nil) h1
    have e : leftA [] (bs ++ [ofB f c]) [] = W1 := by
      rw [left_more, k2]
      show rowsA [] (runP [] c).2 _ = _
      rw [k1]; rfl
    rw [← e] at h2
    have := ih (f := f + (c.length : Int)) h2
    rw [blocksOf, show bs ++ ofB f c :: blocksOf (f + (c.length : Int)) cs = (bs ++ [ofB f c]) ++ blocksOf (f + (c.length : Int)) cs by simp]
    exact this
/-- Nothing is lost. -/
theorem hist_all {cs : List (List RcP)} {W' : List RowP} {f : Int} (h : runP [] cs.flatten = (0, W')) : leftA [] (blocksOf f cs) [] = W' := hist_left (bs := []) h
end Go.Proofs.YtidoidoelgfnaaaGreatDoor.SL

/- Blocks of a history follow one another; they are as one (plain). -/
namespace Go.Proofs.YtidoidoelgfnaaaGreatDoor.SL
open Go.RowKit
set_option linter.unusedVariables false
/-! Greatest times. -/
theorem last_add {lb q : List Pr} {t : Int} {ps : List Pt} {S : List RowP} (hs : SrtR S) : lastF (addF S lb t ps) q = if lb = q then some (match lastF S lb with | some u => max u t | none => t) else lastF S q := by
  by_cases e : lb = q
  · rw [if_pos e, ← e]; exact lastF_eq hs
  · rw [if_neg e]; exact lastF_ne fun k => e k.symm
theorem rowsL_srtH : ∀ {H A : List RowP}, SrtR A → SrtR (rowsL H A)
  | [], A, h => h
  | r :: l, A, h => by rw [rowsL]; exact rowsL_srtH (addF_srt h)
theorem rowsL_last {d : List RcP} : ∀ {H A W : List RowP}, SrtR A → SrtR W → lastF A = lastF W → lastF (rowsL H A) = lastF (rowsA d H W)
  | [], A, W, _, _, h => h
  | r :: l, A, W, hA, hW, h => by
    rw [rowsL, rowsA]
    refine rowsL_last (addF_srt hA) (addF_srt hW) ?_
    funext q
    rw [last_add hA, last_add hW, h]
theorem clash_noH {A H : List RowP} {lst : List Pr → Option Int} {r : RowP} (hA : SrtR A) (hl : lastF A = lst) (hL : Low H lst) (hr : r ∈ H) : clashP A r = false := by
  unfold clashP
  rw [List.any_eq_false]
  intro q hq h
  rw [Bool.and_eq_true] at h
  have e := of_decide_eq_true h.1
  have h1 := lastF_mem hA hq
  rw [e, hl] at h1
  cases hp : r.pts with
  | nil => rw [hp] at h; cases h.2
  | cons p l =>
    rw [hp] at h
    have h2 : decide (p.t ≤ q.last) = true := h.2
    have h3 := hL r hr p (by rw [hp]; exact List.mem_cons_self ..) q.last h1
    have := of_decide_eq_true h2
    omega
def ordP (nx : Int) (A : List RowP) : List BlkP → Int
  | [] => 0
  | b :: l => if ¬ b.first = nx then 9 else if b.rows.any (clashP A) = true then 9 else ordP (b.to + 1) (rowsL b.rows A) l
theorem ord_p : ∀ {bs : List BlkV} {nx : Int} {A : List RowP}, ordGo nx A bs = ordP nx A (bs.map BlkV.p)
  | [], _, _ => rfl
  | b :: l, nx, A => by
    rw [ordGo, List.map_cons, ordP, ord_p (bs := l)]
    have : (b.rs.l.any fun r => clashP A r.p) = b.p.rows.any (clashP A) := by
      show _ = (b.rs.l.map MRow.p).any (clashP A)
      rw [List.any_map]; rfl
    rw [this]; rfl
theorem ord_hist {cs : List (List RcP)} : ∀ {bs : List BlkP} {W' A : List RowP} {f : Int}, SrtR A → lastF A = lastF (leftA [] bs []) → runP (leftA [] bs []) cs.flatten = (0, W') → ordP f A (blocksOf f cs) = 0 ∧ lastF (lastsA (blocksOf f cs) A) = lastF W' := by
  induction cs with
  | nil => intro bs W' A f hA hl h; rw [List.flatten_nil, runP] at h; cases h; exact ⟨rfl, hl⟩
  | cons c cs ih =>
    intro bs W' A f hA hl h
    rw [List.flatten_cons] at h
    obtain ⟨W1, h1, h2⟩ := runP_app h
    have hW := left_srt (d := []) (bs := bs) (S := []) List.Pairwise.nil
    obtain ⟨H, k1, k2, _, k4⟩ := run_span hW h1
    have e : leftA [] (bs ++ [ofB f c]) [] = W1 := by
      rw [left_more, k2]
      show rowsA [] (runP [] c).2 _ = _
      rw [k1]; rfl
    have hr : (ofB f c).rows = H := by show (runP [] c).2 = H; rw [k1]
    have hl2 : lastF (rowsL H A) = lastF (leftA [] (bs ++ [ofB f c]) []) := by
      rw [e, k2]
      exact rowsL_last hA (srt_delG hW) (by rw [last_delG]; exact hl)
    rw [← e] at h2
    obtain ⟨g1, g2⟩ := ih (f := f + (c.length : Int)) (rowsL_srtH hA) hl2 h2
    rw [blocksOf]
    refine ⟨?_, by rw [lastsA, hr]; exact g2⟩
    rw [ordP, if_neg (show ¬ ¬ (ofB f c).first = f from fun k => k rfl), hr, if_neg]
    · rw [show (ofB f c).to + 1 = f + (c.length : Int) by show f + (c.length : Int) - 1 + 1 = _; omega]; exact g1
    · rw [List.any_eq_true]
      rintro ⟨r, hr2, hc⟩
      rw [clash_noH hA hl k4 hr2] at hc; cases hc
/-! What is wrong with a block of records: nothing. -/
theorem run_chk {c : List RcP} : ∀ {W W' : List RowP}, runP W c = (0, W') → ∀ r ∈ c, rcheckP r = 0 := by
  induction c with
  | nil => intro W W' _ r h; cases h
  | cons z l ih =>
    intro W W' h r hr
    rw [runP] at h
    split at h
    · rename_i ht
      rcases List.mem_cons.1 hr with e | hr
      · rw [e]; exact (try_zero ht).1
      · exact ih h r hr
    · rename_i ht; exact absurd (congrArg Prod.fst h) ht
theorem pts_go : ∀ {l : List Pt} {pv : Option Pt} {last : Int}, l.Pairwise (fun a b => a.t < b.t) → (∀ p ∈ l, p.t ≤ last) → (∀ q, pv = some q → ∀ p ∈ l, q.t < p.t) → ptsOk last pv l = true
  | [], _, _, _, _, _ => rfl
  | p :: l, pv, last, h1, h2, h3 => by
    have hh := List.pairwise_cons.1 h1
    rw [ptsOk, pts_go hh.2 (fun q hq => h2 q (by simp [hq])) (fun q e x hx => by cases e; exact hh.1 x hx), Bool.and_true, decide_eq_false (by have := h2 p (by simp); omega), Bool.false_or]
    cases pv with
    | none => rfl
    | some q =>
      show (!decide (p.t ≤ q.t)) = true
      rw [decide_eq_false (by have := h3 q rfl p (by simp); omega)]; rfl
theorem rows_go : ∀ {l : List MRow} {pv : Option MRow}, SrtR (l.map MRow.p) → (∀ r ∈ l, SL.chk r.lb.l = true) → (∀ r ∈ l, PtsOk r.p) → (∀ q, pv = some q → ∀ r ∈ l, cmpF q.lb.l r.lb.l < 0) → rowsGo pv l = 0
  | [], _, _, _, _, _ => rfl
  | r :: l, pv, h1, h2, h3, h4 => by
    rw [List.map_cons] at h1
    have hh := List.pairwise_cons.1 h1
    have hc : cmpV pv r = false := by
      cases pv with
      | none => rfl
      | some q => have := h4 q rfl r (by simp); exact decide_eq_false (by omega)
    have hp := h3 r (by simp)
    rw [rowsGo, if_neg (by rw [h2 r (by simp)]; decide), hc, if_neg (by decide), pts_go (l := r.pt.l) (last := r.last) (pv := none) hp.1 hp.2 (fun q e => by cases e), if_neg (by decide)]
    exact rows_go hh.2 (fun q hq => h2 q (by simp [hq])) (fun q hq => h3 q (by simp [hq])) fun q e x hx => by
      cases e; exact hh.1 x.p (List.mem_map.2 ⟨x, hx, rfl⟩)
theorem chk_block {b : BlkV} {f : Int} {c : List RcP} {H : List RowP} {M : Nat} (hb : b.p = ofB f c) (hf : 1 ≤ f) (hn : 1 ≤ c.length) (ht : f + (c.length : Int) - 1 ≤ 99999999) (hrun : runP [] c = (0, H)) (hH : WfH H M) : checkB b = 0 := by
  have e1 : b.first = f := congrArg BlkP.first hb
  have e2 : b.to = f + (c.length : Int) - 1 := congrArg BlkP.to hb
  have e3 : b.rs.l.map MRow.p = H := by have := congrArg BlkP.rows hb; rw [show (ofB f c).rows = (runP [] c).2 from rfl, hrun] at this; exact this
  have e4 : b.ds.l.map Rcd.p = delsOf c := congrArg BlkP.dels hb
  have hm : ∀ r ∈ b.rs.l, r.p ∈ H := fun r hr => e3 ▸ List.mem_map.2 ⟨r, hr, rfl⟩
  unfold checkB
  rw [if_neg (by rw [e1, e2]; omega), rows_go (by rw [e3]; exact hH.srt) (fun r hr => hH.chk _ (hm r hr)) (fun r hr => hH.ok _ (hm r hr)) (fun q e => by cases e), if_neg (by simp), if_pos]
  unfold delsOk
  rw [List.all_eq_true]
  intro d hd
  have h1 : d.p ∈ delsOf c := e4 ▸ List.mem_map.2 ⟨d, hd, rfl⟩
  obtain ⟨h2, h3⟩ := List.mem_filter.1 h1
  exact decide_eq_true ⟨of_decide_eq_true h3, by rw [rcheckP_eq]; exact run_chk hrun _ h2⟩
theorem wf_run {M : Nat} {c : List RcP} {H : List RowP} (h : runP [] c = (0, H)) (hn : c.length ≤ M) : WfH H (32 * M) := by
  have := runP_sz (M := 0) (l := c) (wf_nil 0)
  rw [h] at this
  exact this.mono (by omega)
end Go.Proofs.YtidoidoelgfnaaaGreatDoor.SL

/- Histories cut into spans (plain). -/
namespace Go.Proofs.YtidoidoelgfnaaaGreatDoor.SL
open Go.RowKit
set_option linter.unusedVariables false
theorem runP_snoc {r : RcP} : ∀ {c : List RcP} {W A : List RowP}, runP W c = (0, A) → tryP A r = 0 → runP W (c ++ [r]) = (0, applyP A r)
  | [], W, A, h, ht => by rw [runP] at h; cases h; rw [List.nil_append, runP, if_pos ht, runP]
  | z :: c, W, A, h, ht => by
    rw [runP] at h
    split at h
    · rename_i hz; rw [List.cons_append, runP, if_pos hz]; exact runP_snoc h ht
    · rename_i hz; exact absurd (congrArg Prod.fst h) hz
theorem blocksOf_snoc {c : List RcP} : ∀ {cs : List (List RcP)} {f : Int}, blocksOf f (cs ++ [c]) = blocksOf f cs ++ [ofB (f + (cs.flatten.length : Int)) c]
  | [], f => by show [ofB f c] = [ofB (f + ((0 : Nat) : Int)) c]; rw [show f + ((0 : Nat) : Int) = f by omega]
  | z :: cs, f => by
    rw [List.cons_append, blocksOf, blocksOf, blocksOf_snoc (cs := cs), List.cons_append, List.flatten_cons, List.length_append]
    rw [show f + (z.length : Int) + (cs.flatten.length : Int) = f + ((z.length + cs.flatten.length : Nat) : Int) by omega]
theorem blocksOf_len : ∀ {cs : List (List RcP)} {f : Int}, (blocksOf f cs).length = cs.length
  | [], _ => rfl
  | z :: cs, f => by rw [blocksOf, List.length_cons, List.length_cons, blocksOf_len]
/-- A span of a history that is taken is taken by itself. -/
theorem span_ok {a c b : List RcP} {W : List RowP} (h : runP [] (a ++ (c ++ b)) = (0, W)) : ∃ H, runP [] c = (0, H) := by
  obtain ⟨W1, h1, h2⟩ := runP_app h
  obtain ⟨W2, h3, _⟩ := runP_app h2
  have hs : SrtR W1 := by have := runP_srt (c := a) (W := []) List.Pairwise.nil; rw [h1] at this; exact this
  obtain ⟨H, k, _⟩ := run_span hs h3
  exact ⟨H, k⟩
theorem ofE_ok {f : Int} {c : List RcP} {H : List RowP} (h : runP [] c = (0, H)) (hf : 1 ≤ f) (hn : 1 ≤ c.length) (ht : f + (c.length : Int) ≤ 1000) : ofE f c = 0 := by
  unfold ofE
  rw [if_neg (by omega), h]
/-- What is cut of a history: spans that are not empty, blocks of them. -/
structure Cut (cs : List (List RcP)) (bs : List BlkV) : Prop where
  ne : ∀ c ∈ cs, 1 ≤ c.length
  bl : bs.map BlkV.p = blocksOf 1 cs
  sz : ∀ b ∈ bs, SzB b
  nr : ∀ b ∈ bs, b.rs.l.length ≤ 256
theorem Cut.nil : Cut [] [] := ⟨(fun c h => by cases h), rfl, (fun b h => by cases h), fun b h => by cases h⟩
theorem Cut.snoc {cs : List (List RcP)} {bs : List BlkV} {c : List RcP} {b : BlkV} (h : Cut cs bs) (hc : 1 ≤ c.length) (hb : b.p = ofB (1 + (cs.flatten.length : Int)) c) (hz : SzB b) (hn : b.rs.l.length ≤ 256) : Cut (cs ++ [c]) (bs ++ [b]) := by
  refine ⟨fun x hx => ?_, by rw [List.map_append, h.bl, blocksOf_snoc, ← hb]; rfl, fun x hx => ?_, fun x hx => ?_⟩
  · rcases List.mem_append.1 hx with hx | hx
    · exact h.ne x hx
    · rw [List.mem_singleton.1 hx]; exact hc
  · rcases List.mem_append.1 hx with hx | hx
    · exact h.sz x hx
    · rw [List.mem_singleton.1 hx]; exact hz
  · rcases List.mem_append.1 hx with hx | hx
    · exact h.nr x hx
    · rw [List.mem_singleton.1 hx]; exact hn
theorem Cut.len {cs : List (List RcP)} {bs : List BlkV} (h : Cut cs bs) : bs.length = cs.length := by
  have := congrArg List.length h.bl
  rwa [List.length_map, blocksOf_len] at this
theorem flat_ge : ∀ {cs : List (List RcP)}, (∀ c ∈ cs, 1 ≤ c.length) → cs.length ≤ cs.flatten.length
  | [], _ => Nat.le_refl _
  | c :: cs, h => by
    have h1 := h c (by simp)
    have h2 := flat_ge (cs := cs) fun x hx => h x (by simp [hx])
    rw [List.flatten_cons, List.length_append, List.length_cons]; omega
end Go.Proofs.YtidoidoelgfnaaaGreatDoor.SL

/- A history cut into blocks: what its blocks tell (plain). -/
namespace Go.Proofs.YtidoidoelgfnaaaGreatDoor.SL
open Go.RowKit
set_option linter.unusedVariables false
def stripR (r : RowP) : RowP := ⟨r.lb, r.last, []⟩
theorem addF_bare {lb : List Pr} {t : Int} : ∀ {S : List RowP}, (∀ r ∈ S, r.pts = []) → ∀ r ∈ addF S lb t [], r.pts = []
  | [], _, r, h => by simp [addF] at h; rw [h]
  | z :: l, hs, r, h => by
    rcases addF_mem h with h | rfl | ⟨x, hx, _, rfl⟩
    · exact hs r h
    · rfl
    · show x.pts ++ [] = []; rw [hs x hx]; rfl
theorem rowsL_bare : ∀ {H S : List RowP}, (∀ r ∈ S, r.pts = []) → ∀ r ∈ rowsL H S, r.pts = []
  | [], S, h => h
  | x :: xs, S, h => by rw [rowsL]; exact rowsL_bare (addF_bare h)
theorem lastsA_bare : ∀ {bs : List BlkP} {S : List RowP}, (∀ r ∈ S, r.pts = []) → ∀ r ∈ lastsA bs S, r.pts = []
  | [], S, h => h
  | b :: l, S, h => by rw [lastsA]; exact lastsA_bare (rowsL_bare h)
theorem lastsA_srtH : ∀ {bs : List BlkP} {S : List RowP}, SrtR S → SrtR (lastsA bs S)
  | [], S, h => h
  | b :: l, S, h => by rw [lastsA]; exact lastsA_srtH (rowsL_srtH h)
theorem lk_bare {A : List RowP} {q : List Pr} (h : ∀ r ∈ A, r.pts = []) : lkF A q = (lastF A q).map fun t => (t, []) := by
  induction A with
  | nil => rfl
  | cons r l ih =>
    rw [lkF, lastF]
    split
    · rw [h r (by simp)]; rfl
    · exact ih fun x hx => h x (by simp [hx])
theorem lasts_strip {A C : List RowP} (hA : SrtR A) (hC : SrtR C) (hb : ∀ r ∈ C, r.pts = []) (h : lastF C = lastF A) : C = A.map stripR := by
  refine lk_ext hC (srt_map (g := stripR) (fun _ => rfl) hA) fun q => ?_
  rw [lk_bare hb, lk_bare (A := A.map stripR) (fun r hr => by obtain ⟨x, _, rfl⟩ := List.mem_map.1 hr; rfl), h]
  congr 1
  rw [last_lk, last_lk, lk_map (g := stripR) (f := fun _ _ => []) (fun _ => rfl) fun r => ⟨rfl, rfl⟩]
  cases lkF A q <;> rfl
theorem blocks_mem : ∀ {cs : List (List RcP)} {f : Int} {b : BlkP}, b ∈ blocksOf f cs → ∃ a c z, cs = a ++ c :: z ∧ b = ofB (f + (a.flatten.length : Int)) c
  | [], f, b, h => by cases h
  | c :: cs, f, b, h => by
    rw [blocksOf] at h
    rcases List.mem_cons.1 h with e | h
    · exact ⟨[], c, cs, rfl, by rw [e]; show ofB f c = ofB (f + ((0 : Nat) : Int)) c; rw [show f + ((0 : Nat) : Int) = f by omega]⟩
    · obtain ⟨a, d, z, e1, e2⟩ := blocks_mem h
      refine ⟨c :: a, d, z, by rw [e1]; rfl, ?_⟩
      rw [e2, List.flatten_cons, List.length_append, show f + (c.length : Int) + (a.flatten.length : Int) = f + ((c.length + a.flatten.length : Nat) : Int) by omega]
theorem blocks_last {cs : List (List RcP)} {f : Int} (h : cs ≠ []) : ∃ b, (blocksOf f cs).getLast? = some b ∧ b.to = f + (cs.flatten.length : Int) - 1 := by
  rcases List.eq_nil_or_concat cs with e | ⟨l, c, e⟩
  · exact absurd e h
  · rw [List.concat_eq_append] at e
    subst e
    rw [blocksOf_snoc]
    refine ⟨_, List.getLast?_concat .., ?_⟩
    show f + (l.flatten.length : Int) + (c.length : Int) - 1 = _
    rw [List.flatten_append, List.length_append]
    simp only [List.flatten_cons, List.flatten_nil, List.append_nil]
    omega
theorem wsum_le {K : Nat} : ∀ {l : List MRow}, (∀ r ∈ l, 10 * r.lb.l.length + r.pt.l.length ≤ K) → wsum l ≤ K * l.length
  | [], _ => Nat.zero_le _
  | r :: l, h => by
    have h1 := h r (by simp)
    have h2 := wsum_le (l := l) fun q hq => h q (by simp [hq])
    rw [wsum, List.length_cons, Nat.mul_succ]; omega
structure HistOk (bs : List BlkV) (L : List RcP) (A : List RowP) : Prop where
  chk : ∀ b ∈ bs, checkB b = 0
  fol : followV bs = 0
  wgt : ∀ b ∈ bs, wgt b ≤ 1000000
  len : bs.length ≤ 30
  left : leftA [] (bs.map BlkV.p) [] = A
  last : lastsA (bs.map BlkV.p) [] = A.map stripR
  srt : SrtR A
  nil : bs = [] → A = []
  join : bs ≠ [] → ∀ mark : Int, joinV bs mark = (⟨1, (L.length : Int), A.map (flt (inF mark 9223372036854775807)), []⟩, 0)
theorem hist_ok {cs : List (List RcP)} {bs : List BlkV} {L : List RcP} {A : List RowP} (hC : Cut cs bs) (hf : cs.flatten = L) (hrun : runP [] L = (0, A)) (hL : L.length ≤ 30) : HistOk bs L A := by
  subst hf
  have hs : SrtR A := by have := runP_srt (c := cs.flatten) (W := []) List.Pairwise.nil; rw [hrun] at this; exact this
  have hb : ∀ b ∈ bs, ∃ f c H, b.p = ofB f c ∧ 1 ≤ f ∧ 1 ≤ c.length ∧ f + (c.length : Int) ≤ 31 ∧ runP [] c = (0, H) := fun b hb => by
    have h1 : b.p ∈ blocksOf 1 cs := hC.bl ▸ List.mem_map.2 ⟨b, hb, rfl⟩
    obtain ⟨a, c, z, e1, e2⟩ := blocks_mem h1
    have hcs := hC.ne c (by rw [e1]; simp)
    rw [e1, List.flatten_append, List.flatten_cons] at hrun hL
    obtain ⟨H, hH⟩ := span_ok hrun
    rw [List.length_append, List.length_append] at hL
    exact ⟨_, c, H, e2, by omega, hcs, by omega, hH⟩
  have hchk : ∀ b ∈ bs, checkB b = 0 := fun b hb9 => by
    obtain ⟨f, c, H, e, h1, h2, h3, h4⟩ := hb b hb9
    exact chk_block e h1 h2 (by omega) h4 (wf_run h4 (Nat.le_refl _))
  have hord := ord_hist (cs := cs) (bs := []) (A := []) (f := 1) (W' := A) List.Pairwise.nil rfl hrun
  have hfol : followV bs = 0 := by
    unfold followV
    rw [if_neg (by rw [chkAll_zero hchk]; simp), ord_p, hC.bl]
    exact hord.1
  have hlen : bs.length ≤ 30 := by
    have := flat_ge hC.ne
    rw [hC.len]; omega
  refine ⟨hchk, hfol, fun b hb9 => ?_, hlen, by rw [hC.bl]; exact hist_all hrun, ?_, hs, fun e => ?_, fun hn mark => ?_⟩
  · obtain ⟨f, c, H, e, h1, h2, h3, h4⟩ := hb b hb9
    have hw := wf_run h4 (show c.length ≤ 30 by omega)
    have e3 : b.rs.l.map MRow.p = H := by have := congrArg BlkP.rows e; rw [show (ofB f c).rows = (runP [] c).2 from rfl, h4] at this; exact this
    have e4 : b.ds.l.map Rcd.p = delsOf c := congrArg BlkP.dels e
    have hd : b.ds.l.length ≤ 30 := by
      have := congrArg List.length e4
      rw [List.length_map] at this
      have h5 : (delsOf c).length ≤ c.length := List.length_filter_le ..
      omega
    have h5 := wsum_le (K := 1040) (l := b.rs.l) fun r hr => by
      have hm : r.p ∈ H := e3 ▸ List.mem_map.2 ⟨r, hr, rfl⟩
      have h6 := (chk_sz (hw.chk _ hm)).1
      have h7 := hw.pts _ hm
      have h8 : r.lb.l.length ≤ 8 := h6
      have h9 : r.pt.l.length ≤ 32 * 30 := h7
      omega
    have h6 := hC.nr b hb9
    show wsum b.rs.l + b.ds.l.length ≤ _
    have h7 : 1040 * b.rs.l.length ≤ 1040 * 256 := Nat.mul_le_mul_left _ h6
    omega
  · rw [hC.bl]
    exact lasts_strip hs (lastsA_srtH List.Pairwise.nil) (lastsA_bare fun r h => by cases h) hord.2
  · subst e
    have : cs = [] := List.length_eq_zero_iff.1 (by rw [← hC.len]; rfl)
    subst this
    rw [List.flatten_nil, runP] at hrun; cases hrun; rfl
  · have hne : cs ≠ [] := fun e => hn (List.length_eq_zero_iff.1 (by rw [hC.len, e]; rfl))
    obtain ⟨q, hq, hto⟩ := blocks_last (f := 1) hne
    unfold joinV
    rw [if_neg (by rw [hfol]; simp)]
    have hg : (bs.getLast?).map BlkV.p = some q := by rw [← hq, ← hC.bl, List.getLast?_map]
    cases hl : bs.getLast? with
    | none => rw [hl] at hg; cases hg
    | some b =>
      rw [hl] at hg
      have e : b.p = q := Option.some.inj hg
      show ((⟨1, b.to, joinRows (bs.map BlkV.p) mark, []⟩ : BlkP), (0 : Int)) = _
      unfold joinRows
      rw [hC.bl, hist_all hrun, show b.to = q.to from congrArg BlkP.to e, hto]
      congr 2
      omega
end Go.Proofs.YtidoidoelgfnaaaGreatDoor.SL

/- A history as one block (plain). -/
namespace Go.Proofs.YtidoidoelgfnaaaGreatDoor.SL
open Go.RowKit
set_option linter.unusedVariables false
theorem rsum_le {K : Nat} : ∀ {l : List MRow}, (∀ r ∈ l, r.pt.l.length ≤ K) → rsum l ≤ K * l.length
  | [], _ => Nat.zero_le _
  | r :: l, h => by
    have h1 := h r (by simp)
    have h2 := rsum_le (l := l) fun q hq => h q (by simp [hq])
    rw [rsum, List.length_cons, Nat.mul_succ]; omega
theorem rows_nil {H : List RowP} (h : SrtR H) : rowsA [] H [] = H := by
  refine lk_ext (rowsA_srt List.Pairwise.nil) h fun q => ?_
  rw [lk_rows h List.Pairwise.nil]
  cases lkF H q <;> rfl
structure OneOk (c : BlkV) (R : List RowP) : Prop where
  sz : SzB c
  fol : followV [c] = 0
  wgt : ∀ b ∈ [c], wgt b ≤ 1000000
  ck : ∀ b ∈ [c], ∀ r ∈ b.rs.l, SL.chk r.lb.l = true
  rt : rtot [c] ≤ 256
  pt : ptot [c] ≤ 245760
  dt : dtot [c] = 0
  left : leftA [] [c.p] [] = R
theorem one_ok {c : BlkV} {n : Int} {A : List RowP} {f : Pt → Bool} (hp : c.p = ⟨1, n, A.map (flt f), []⟩) (hA : WfH A 960) (hAl : A.length ≤ 256) (hn : 1 ≤ n) (hn2 : n ≤ 99999999) : OneOk c (A.map (flt f)) := by
  have e1 : c.first = 1 := congrArg BlkP.first hp
  have e2 : c.to = n := congrArg BlkP.to hp
  have e3 : c.rs.l.map MRow.p = A.map (flt f) := congrArg BlkP.rows hp
  have e4 : c.ds.l = [] := List.map_eq_nil_iff.1 (congrArg BlkP.dels hp)
  have hl : c.rs.l.length ≤ 256 := by have := congrArg List.length e3; rw [List.length_map, List.length_map] at this; omega
  have hs : SrtR (A.map (flt f)) := srt_flt hA.srt
  have hm : ∀ r ∈ c.rs.l, ∃ x ∈ A, x.lb = r.lb.l ∧ x.last = r.last ∧ x.pts.filter f = r.pt.l := fun r hr => by
    have h1 : r.p ∈ A.map (flt f) := e3 ▸ List.mem_map.2 ⟨r, hr, rfl⟩
    obtain ⟨x, hx, e⟩ := List.mem_map.1 h1
    exact ⟨x, hx, congrArg RowP.lb e, congrArg RowP.last e, congrArg RowP.pts e⟩
  have hck : ∀ r ∈ c.rs.l, SL.chk r.lb.l = true := fun r hr => by obtain ⟨x, hx, e, _⟩ := hm r hr; rw [← e]; exact hA.chk x hx
  have hpt : ∀ r ∈ c.rs.l, r.pt.l.length ≤ 960 := fun r hr => by
    obtain ⟨x, hx, _, _, e⟩ := hm r hr
    rw [← e]; exact Nat.le_trans (List.length_filter_le _ _) (hA.pts x hx)
  have hok : ∀ r ∈ c.rs.l, PtsOk r.p := fun r hr => by
    obtain ⟨x, hx, _, h2, e⟩ := hm r hr
    obtain ⟨k1, k2⟩ := hA.ok x hx
    refine ⟨?_, fun p hp => ?_⟩
    · show r.pt.l.Pairwise _; rw [← e]; exact k1.sublist List.filter_sublist
    · show p.t ≤ r.last
      have : p ∈ r.pt.l := hp
      rw [← e] at this
      rw [← h2]; exact k2 p (List.mem_filter.1 this).1
  have hchk : checkB c = 0 := by
    unfold checkB
    rw [if_neg (by rw [e1, e2]; omega), rows_go (by rw [e3]; exact hs) hck hok (fun q e => by cases e), if_neg (by simp), e4]; rfl
  refine ⟨⟨by omega, by rw [e4]; exact Nat.zero_le _, fun r hr => ⟨(chk_SzP (hck r hr)).2, Nat.le_trans (hpt r hr) (by decide), (chk_SzP (hck r hr)).1⟩, fun d hd => by rw [e4] at hd; cases hd⟩, ?_, fun b hb => ?_, fun b hb => by rw [List.mem_singleton.1 hb]; exact hck, ?_, ?_, ?_, ?_⟩
  · unfold followV
    rw [if_neg (by rw [chkAll, hchk]; simp [chkAll]), ord_p]
    show ordP 1 [] [c.p] = 0
    rw [ordP, if_neg (show ¬ ¬ c.p.first = 1 from fun k => k e1), if_neg, ordP]
    rw [List.any_eq_true]
    rintro ⟨r, _, hr⟩; cases hr
  · rw [List.mem_singleton.1 hb]
    have h1 := wsum_le (K := 1040) (l := c.rs.l) fun r hr => by
      have h6 := (chk_sz (hck r hr)).1
      have h7 := hpt r hr
      omega
    show wsum c.rs.l + c.ds.l.length ≤ _
    have h7 : 1040 * c.rs.l.length ≤ 1040 * 256 := Nat.mul_le_mul_left _ hl
    rw [e4]; simp only [List.length_nil]; omega
  · show c.rs.l.length + 0 ≤ _; omega
  · have h1 := rsum_le (K := 960) hpt
    have h7 : 960 * c.rs.l.length ≤ 960 * 256 := Nat.mul_le_mul_left _ hl
    show rsum c.rs.l + 0 ≤ _; omega
  · show c.ds.l.length + 0 = 0; rw [e4]; rfl
  · rw [leftA, leftA, hp]
    exact rows_nil hs
theorem rng_run {c : List RcP} : ∀ {W A : List RowP}, RngA W → (∀ r ∈ c, RngP r) → runP W c = (0, A) → RngA A := by
  induction c with
  | nil => intro W A h _ e; rw [runP] at e; cases e; exact h
  | cons r l ih =>
    intro W A h hr e
    rw [runP] at e
    split at e
    · exact ih (rng_apply h (hr r (by simp))) (fun q hq => hr q (by simp [hq])) e
    · rename_i ht; exact absurd (congrArg Prod.fst e) ht
theorem qry_mark {ask : List Mt} {fr to mark : Int} (hm : mark ≤ fr) : ∀ {A : List RowP}, RngA A → qryR ask fr to (A.map (flt (inF mark 9223372036854775807))) = qryR ask fr to A
  | [], _ => rfl
  | r :: l, h => by
    have h1 : (flt (inF mark 9223372036854775807) r).pts.filter (inF fr to) = r.pts.filter (inF fr to) := by
      show (r.pts.filter _).filter _ = _
      rw [List.filter_filter]
      refine List.filter_congr fun p hp => ?_
      have h2 := h r (by simp) p hp
      unfold inF
      by_cases k : fr ≤ p.t ∧ p.t ≤ to
      · rw [decide_eq_true k, decide_eq_true (show mark ≤ p.t ∧ p.t ≤ 9223372036854775807 from ⟨by omega, h2.2⟩)]; rfl
      · rw [decide_eq_false k]; rfl
    rw [List.map_cons, qryR, qryR, h1, qry_mark hm (A := l) fun x hx => h x (by simp [hx])]
    rfl
end Go.Proofs.YtidoidoelgfnaaaGreatDoor.SL

/- To join blocks once, or in two steps (plain). -/
namespace Go.Proofs.YtidoidoelgfnaaaGreatDoor.SL
open Go.RowKit
set_option linter.unusedVariables false
end Go.Proofs.YtidoidoelgfnaaaGreatDoor.SL
