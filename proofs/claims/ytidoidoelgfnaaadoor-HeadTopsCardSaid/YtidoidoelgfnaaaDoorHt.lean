/- The greatest time of a head whose records are applied; a commit is applied whole (plain). -/
import Derived.Test.YtidoidoelgfnaaaDoorHk1M
import Derived.Test.YtidoidoelgfnaaaDoorHdM
namespace Go.Proofs.YtidoidoelgfnaaaDoor.SL
open Go.RowKit
set_option linter.unusedVariables false
/-! The greatest time. -/
theorem topOf_add {A : List RowP} {lb : List Pr} {t u : Int} {ps : List Pt} (hs : SrtR A) (h : TopOf A t) : TopOf (addF A lb u ps) (if ¬ 0 < A.length ∨ t < u then u else t) := by
  rcases h with ⟨e, _⟩ | ⟨⟨r, hr, h1⟩, h2⟩
  · subst e
    rw [if_pos (.inl (by simp))]
    exact .inr ⟨⟨⟨lb, u, ps⟩, by simp [addF], rfl⟩, fun q hq => by simp [addF] at hq; rw [hq]; exact Int.le_refl _⟩
  · have hA : 0 < A.length := List.length_pos_of_mem hr
    have hle : ∀ q ∈ addF A lb u ps, q.last ≤ max t u := fun q hq => by
      rcases addF_mem hq with hq | rfl | ⟨x, hx, _, rfl⟩
      · have := h2 q hq; omega
      · exact Int.le_max_right ..
      · have := h2 x hx; show max x.last u ≤ _; omega
    have hm : (if ¬ 0 < A.length ∨ t < u then u else t) = max t u := by
      split
      · rename_i h; rcases h with h | h
        · exact absurd hA h
        · omega
      · rename_i h; have : ¬ t < u := fun k => h (.inr k); omega
    rw [hm]
    refine .inr ⟨?_, hle⟩
    by_cases hu : t < u
    · have e := lastF_eq (lb := lb) (t := u) (ps := ps) hs
      obtain ⟨x, hx, _, hl⟩ := lastF_some e
      refine ⟨x, hx, ?_⟩
      rw [hl]
      cases hq : lastF A lb with
      | none => show u = _; omega
      | some v =>
        obtain ⟨y, hy, _, hy2⟩ := lastF_some hq
        have := h2 y hy
        show max v u = _; omega
    · have hl := lastF_mem hs hr
      by_cases hlb : r.lb = lb
      · have e := lastF_eq (lb := lb) (t := u) (ps := ps) hs
        rw [← hlb, hl] at e
        obtain ⟨x, hx, _, hl2⟩ := lastF_some e
        exact ⟨x, hlb ▸ hx, by rw [hl2]; show max r.last u = _; omega⟩
      · have e := lastF_ne (t := u) (ps := ps) hlb (A := A)
        rw [hl] at e
        obtain ⟨x, hx, _, hl2⟩ := lastF_some e
        exact ⟨x, hx, by rw [hl2]; omega⟩
theorem topOf_del {A : List RowP} {t fr to : Int} {ms : List Mt} (h : TopOf A t) : TopOf (delF fr to ms A) t := by
  have hl : ∀ r, (delR fr to ms r).last = r.last := fun r => by unfold delR; split <;> rfl
  rcases h with ⟨e, h⟩ | ⟨⟨r, hr, h1⟩, h2⟩
  · subst e; exact .inl ⟨rfl, h⟩
  · refine .inr ⟨⟨delR fr to ms r, List.mem_map.2 ⟨r, hr, rfl⟩, by rw [hl, h1]⟩, fun q hq => ?_⟩
    obtain ⟨x, hx, rfl⟩ := List.mem_map.1 hq
    rw [hl]; exact h2 x hx
theorem addF_pos {lb : List Pr} {t : Int} {ps : List Pt} : ∀ {A : List RowP}, 0 < (addF A lb t ps).length
  | [] => by simp [addF]
  | r :: l => by rw [addF]; split <;> (try split) <;> simp
/-! A commit, whole. -/
end Go.Proofs.YtidoidoelgfnaaaDoor.SL
