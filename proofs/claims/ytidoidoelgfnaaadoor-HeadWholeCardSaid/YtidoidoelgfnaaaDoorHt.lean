/- The greatest time of a head whose records are applied; a commit is applied whole (plain). -/
import Derived.Test.YtidoidoelgfnaaaDoorHk1M
import Derived.Test.YtidoidoelgfnaaaDoorHdM
namespace Go.Proofs.YtidoidoelgfnaaaDoor.SL
open Go.RowKit
set_option linter.unusedVariables false
/-! The greatest time. -/
/-! A commit, whole. -/
theorem lastF_add {A : List RowP} {lb q : List Pr} {t u : Int} {ps : List Pt} (hs : SrtR A) (h : lastF A q = some u) : ∃ v, lastF (addF A lb t ps) q = some v ∧ u ≤ v := by
  by_cases e : q = lb
  · subst e; rw [lastF_eq hs, h]; exact ⟨_, rfl, Int.le_max_left ..⟩
  · rw [lastF_ne e]; exact ⟨u, h, Int.le_refl _⟩
theorem lastF_put {ss : List SmpP} {q : List Pr} : ∀ {A A1 : List RowP} {u : Int}, SrtR A → putAll A ss = some A1 → lastF A q = some u → ∃ v, lastF A1 q = some v ∧ u ≤ v := by
  induction ss with
  | nil => intro A A1 u _ h hl; rw [putAll] at h; cases h; exact ⟨u, hl, Int.le_refl _⟩
  | cons s l ih =>
    intro A A1 u hs h hl
    rw [putAll] at h
    split at h
    · cases h
    · obtain ⟨v, h1, h2⟩ := lastF_add (lb := s.1) (t := s.2.1) (ps := [⟨s.2.1, s.2.2⟩]) hs hl
      obtain ⟨v2, h3, h4⟩ := ih (addF_srt hs) h h1
      exact ⟨v2, h3, Int.le_trans h2 h4⟩
theorem put_old {ss : List SmpP} {s : SmpP} : ∀ {A A1 : List RowP}, SrtR A → putAll A ss = some A1 → s ∈ ss → oldF A1 s = true := by
  induction ss with
  | nil => intro A A1 _ _ hm; cases hm
  | cons z l ih =>
    intro A A1 hs h hm
    rw [putAll] at h
    split at h
    · cases h
    · rcases List.mem_cons.1 hm with e | hm
      · subst e
        have h1 := lastF_eq (lb := s.1) (t := s.2.1) (ps := [⟨s.2.1, s.2.2⟩]) hs
        obtain ⟨v, h3, h4⟩ := lastF_put (addF_srt hs) h h1
        unfold oldF
        rw [h3]
        refine decide_eq_true (Int.le_trans ?_ h4)
        split
        · exact Int.le_max_right ..
        · exact Int.le_refl _
      · exact ih (addF_srt hs) h hm
theorem putAll_app {l : List SmpP} : ∀ {k : List SmpP} {A : List RowP}, putAll A (k ++ l) = (putAll A k).bind fun A1 => putAll A1 l
  | [], A => rfl
  | s :: k, A => by
    rw [List.cons_append, putAll, putAll, putAll_app (k := k)]
    split <;> rfl
theorem putAll_again {A A1 : List RowP} {ss : List SmpP} {s : SmpP} (hs : SrtR A) (h : putAll A ss = some A1) (hm : s ∈ ss) : putAll A (ss ++ [s]) = none := by
  rw [putAll_app, h]
  show putAll A1 [s] = none
  rw [putAll, if_pos (put_old hs h hm)]
theorem ptsN_add {lb : List Pr} {t : Int} {p : Pt} : ∀ A : List RowP, ptsN (addF A lb t [p]) = ptsN A + 1
  | [] => rfl
  | r :: l => by
    rw [addF]
    split
    · rw [ptsN, ptsN, ptsN_add l]; omega
    · split
      · rw [ptsN, ptsN]; show (r.pts ++ [p]).length + _ = _; rw [List.length_append]; simp; omega
      · rw [ptsN, ptsN]; simp; omega
theorem ptsN_put {ss : List SmpP} : ∀ {A A1 : List RowP}, putAll A ss = some A1 → ptsN A1 = ptsN A + ss.length := by
  induction ss with
  | nil => intro A A1 h; rw [putAll] at h; cases h; rfl
  | cons s l ih =>
    intro A A1 h
    rw [putAll] at h
    split at h
    · cases h
    · rw [ih h, ptsN_add, List.length_cons]; omega
theorem rcheckP_more {r : RcP} {s : SmpP} (h : rcheckP r = 0) (hk : r.k = 1) (hm : s ∈ r.ss) (hl : r.ss.length < 32) : rcheckP ⟨r.k, r.ss ++ [s], r.ms, r.fr, r.to⟩ = 0 := by
  have hc := (rcheckP_smp h).1
  have hall : ∀ l : List SmpP, (∀ x ∈ l, SL.chk x.1 = true) → smsP l = true := by
    intro l
    induction l with
    | nil => intro _; rfl
    | cons z l ih => intro k; rw [smsP, k z (by simp), ih fun x hx => k x (by simp [hx])]; rfl
  unfold rcheckP at h ⊢
  rw [if_pos hk] at h
  rw [if_pos (show (⟨r.k, r.ss ++ [s], r.ms, r.fr, r.to⟩ : RcP).k = 1 from hk)]
  split at h
  · omega
  · rename_i h1
    rw [if_neg (show ¬ ¬ _ from h1)]
    rw [if_neg (show ¬ ¬ (1 ≤ (r.ss ++ [s]).length ∧ (r.ss ++ [s]).length ≤ 32) by rw [List.length_append]; simp; omega), if_pos (hall _ fun x hx => ?_)]
    rcases List.mem_append.1 hx with hx | hx
    · exact hc x hx
    · rw [List.mem_singleton.1 hx]; exact hc s hm
theorem try_again {A : List RowP} {r : RcP} {s : SmpP} (hs : SrtR A) (hk : r.k = 1) (h : tryP A r = 0) (hm : s ∈ r.ss) (hl : r.ss.length < 32) : tryP A ⟨r.k, r.ss ++ [s], r.ms, r.fr, r.to⟩ = 14 := by
  obtain ⟨hc, A1, h1, _⟩ := try_zero h
  unfold tryP
  rw [rcheckP_more hc hk hm hl]
  exact tryF_old (putAll_again hs h1 hm)
theorem apply_pts {A : List RowP} {r : RcP} (hk : r.k = 1) (h : tryP A r = 0) : ptsN (applyP A r) = ptsN A + r.ss.length := by
  obtain ⟨hc, A1, h1, _⟩ := try_zero h
  unfold applyP
  rw [apply_ok h h1, if_neg (by omega)]
  exact ptsN_put h1
end Go.Proofs.YtidoidoelgfnaaaDoor.SL
