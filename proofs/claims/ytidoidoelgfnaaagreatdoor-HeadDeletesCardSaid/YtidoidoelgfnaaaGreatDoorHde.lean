/- What a delete takes away, and no more (plain). -/
import Derived.Test.YtidoidoelgfnaaaGreatDoorHq
import Derived.Test.YtidoidoelgfnaaaGreatDoorHdM
namespace Go.Proofs.YtidoidoelgfnaaaGreatDoor.SL
open Go.RowKit
set_option linter.unusedVariables false
def lessF (b a : List Pt) : List Pt := a.filter fun p => !decide (p ∈ b)
def lessA : List SerP → List Pr → List Pt → List Pt
  | [], _, ps => ps
  | s :: l, lb, ps => lessA l lb (if s.lb = lb then lessF s.pts ps else ps)
def wantF (gone : List SerP) : List SerP → List SerP
  | [] => []
  | s :: l => if 0 < (lessA gone s.lb s.pts).length then ⟨s.lb, lessA gone s.lb s.pts⟩ :: wantF gone l else wantF gone l
theorem lessA_snoc (s : SerP) (lb : List Pr) : ∀ (g : List SerP) (ps : List Pt), lessA (g ++ [s]) lb ps = if s.lb = lb then lessF s.pts (lessA g lb ps) else lessA g lb ps
  | [], ps => rfl
  | x :: g, ps => by rw [List.cons_append, lessA, lessA_snoc s lb g]; rfl
theorem wantF_snoc (gone : List SerP) (s : SerP) : ∀ l : List SerP, wantF gone (l ++ [s]) = wantF gone l ++ if 0 < (lessA gone s.lb s.pts).length then [⟨s.lb, lessA gone s.lb s.pts⟩] else []
  | [] => by show wantF gone [s] = _; rw [wantF, wantF, wantF]; split <;> rfl
  | x :: l => by rw [List.cons_append, wantF, wantF, wantF_snoc gone s l]; split <;> rfl
theorem lessA_nil (lb : List Pr) : ∀ g : List SerP, lessA g lb [] = []
  | [] => rfl
  | s :: g => by rw [lessA]; split <;> exact lessA_nil lb g
theorem lessA_none {lb : List Pr} : ∀ {g : List SerP} {ps : List Pt}, (∀ s ∈ g, s.lb ≠ lb) → lessA g lb ps = ps
  | [], _, _ => rfl
  | s :: g, ps, h => by rw [lessA, if_neg (h s (by simp))]; exact lessA_none fun q hq => h q (by simp [hq])
theorem qry_lb {ask : List Mt} {fr to : Int} : ∀ {A : List RowP} {s : SerP}, s ∈ qryR ask fr to A → ∃ r ∈ A, r.lb = s.lb
  | [], s, h => by cases h
  | r :: l, s, h => by
    rw [qryR] at h
    split at h
    · rcases List.mem_cons.1 h with e | h
      · exact ⟨r, by simp, by rw [e]⟩
      · obtain ⟨x, hx, e⟩ := qry_lb h; exact ⟨x, by simp [hx], e⟩
    · obtain ⟨x, hx, e⟩ := qry_lb h; exact ⟨x, by simp [hx], e⟩
def outF (fr to : Int) (p : Pt) : Bool := !(decide (fr ≤ p.t ∧ p.t ≤ to))
theorem lessA_qry {ms : List Mt} {fr to : Int} : ∀ {A : List RowP}, SrtR A → ∀ {r : RowP}, r ∈ A → ∀ ps : List Pt, (∀ p ∈ ps, p ∈ r.pts) → lessA (qryR ms fr to A) r.lb ps = if isF ms r.lb = true then ps.filter (outF fr to) else ps
  | [], _, r, hr, _, _ => by cases hr
  | z :: l, hs, r, hr, ps, hps => by
    have hs2 := List.pairwise_cons.1 hs
    rcases List.mem_cons.1 hr with e | hr
    · subst e
      have hrest : ∀ s ∈ qryR ms fr to l, s.lb ≠ r.lb := fun s hs9 e9 => by
        obtain ⟨x, hx, e⟩ := qry_lb hs9
        have := hs2.1 x hx
        rw [e, e9, cmp_self] at this; omega
      rw [qryR]
      by_cases hc : 0 < (r.pts.filter (inF fr to)).length ∧ isF ms r.lb = true
      · rw [if_pos hc, lessA, if_pos rfl, lessA_none hrest, if_pos hc.2]
        unfold lessF
        refine List.filter_congr fun p hp => ?_
        have hm : (p ∈ r.pts.filter (inF fr to)) ↔ (fr ≤ p.t ∧ p.t ≤ to) := by
          rw [List.mem_filter]
          exact ⟨fun k => by have := k.2; unfold inF at this; simpa using this, fun k => ⟨hps p hp, by unfold inF; simpa using k⟩⟩
        unfold outF
        by_cases k : fr ≤ p.t ∧ p.t ≤ to
        · rw [decide_eq_true (hm.2 k), decide_eq_true k]
        · rw [decide_eq_false (fun q => k (hm.1 q)), decide_eq_false k]
      · rw [if_neg hc, lessA_none hrest]
        split
        · rename_i hi
          have h0 : r.pts.filter (inF fr to) = [] := List.length_eq_zero_iff.1 (by
            have : ¬ 0 < (r.pts.filter (inF fr to)).length := fun k => hc ⟨k, hi⟩
            omega)
          refine (List.filter_eq_self.2 fun p hp => ?_).symm
          have := List.filter_eq_nil_iff.1 h0 p (hps p hp)
          unfold outF
          unfold inF at this
          rw [decide_eq_false (by simpa using this)]; rfl
        · rfl
    · have hne : ¬ z.lb = r.lb := fun e => by have := hs2.1 r hr; rw [e, cmp_self] at this; omega
      rw [qryR]
      split
      · rw [lessA, if_neg hne]; exact lessA_qry hs2.2 hr ps hps
      · exact lessA_qry hs2.2 hr ps hps
theorem qry_del (ms : List Mt) (fr to : Int) : ∀ A : List RowP, qryR ms fr to (delF fr to ms A) = []
  | [] => rfl
  | r :: l => by
    show qryR ms fr to (delR fr to ms r :: delF fr to ms l) = []
    rw [qryR, if_neg, qry_del ms fr to l]
    unfold delR
    split
    · rintro ⟨h, _⟩
      obtain ⟨p, hp⟩ := List.exists_mem_of_length_pos h
      rw [List.mem_filter, List.mem_filter] at hp
      obtain ⟨⟨_, h1⟩, h2⟩ := hp
      unfold inF at h2
      rw [h2] at h1; cases h1
    · rename_i h; exact fun k => h k.2
theorem want_qry {dm qm : List Mt} {df dt qf qt : Int} {A : List RowP} (hs : SrtR A) : ∀ {A0 : List RowP}, (∀ r ∈ A0, r ∈ A) → wantF (qryR dm df dt A) (qryR qm qf qt A0) = qryR qm qf qt (delF df dt dm A0)
  | [], _ => rfl
  | r :: l, hA => by
    have ih := want_qry (dm := dm) (qm := qm) (df := df) (dt := dt) (qf := qf) (qt := qt) hs (A0 := l) fun x hx => hA x (by simp [hx])
    have K : lessA (qryR dm df dt A) r.lb (r.pts.filter (inF qf qt)) = (delR df dt dm r).pts.filter (inF qf qt) := by
      rw [lessA_qry hs (hA r (by simp)) _ fun p hp => (List.mem_filter.1 hp).1]
      unfold delR
      split
      · show _ = (r.pts.filter (outF df dt)).filter (inF qf qt)
        rw [List.filter_filter, List.filter_filter]
        exact List.filter_congr fun p _ => Bool.and_comm ..
      · rfl
    have hl : (delR df dt dm r).lb = r.lb := by unfold delR; split <;> rfl
    show _ = qryR qm qf qt (delR df dt dm r :: delF df dt dm l)
    rw [qryR, qryR, ← K, hl]
    by_cases h1 : isF qm r.lb = true
    · by_cases h2 : 0 < (r.pts.filter (inF qf qt)).length
      · rw [if_pos ⟨h2, h1⟩, wantF, ih]
        by_cases h3 : 0 < (lessA (qryR dm df dt A) r.lb (r.pts.filter (inF qf qt))).length
        · rw [if_pos h3, if_pos ⟨h3, h1⟩]
        · rw [if_neg h3, if_neg fun k => h3 k.1]
      · have h0 : r.pts.filter (inF qf qt) = [] := List.length_eq_zero_iff.1 (by omega)
        rw [if_neg fun k => h2 k.1, ih, h0, lessA_nil, if_neg fun k => by simp at k]
    · rw [if_neg fun k => h1 k.2, if_neg fun k => h1 k.2, ih]
theorem want_del {dm qm : List Mt} {df dt qf qt : Int} {A : List RowP} (hs : SrtR A) : wantF (qryR dm df dt A) (qryR qm qf qt A) = qryR qm qf qt (delF df dt dm A) := want_qry hs fun _ h => h
theorem lessF_take {b a : List Pt} {i : Nat} {p : Pt} (h : a[i]? = some p) : lessF b (a.take (i + 1)) = lessF b (a.take i) ++ if p ∈ b then [] else [p] := by
  unfold lessF
  rw [List.take_add_one, h, List.filter_append]
  congr 1
  by_cases k : p ∈ b <;> simp [k]
theorem lessF_len (b a : List Pt) : (lessF b a).length ≤ a.length := List.length_filter_le ..
theorem applyP_del {A : List RowP} {ms : List Mt} {fr to : Int} (h : tryP A ⟨2, [], ms, fr, to⟩ = 0) : applyP A ⟨2, [], ms, fr, to⟩ = delF fr to ms A := by
  unfold applyP
  rw [apply_ok (r := ⟨2, [], ms, fr, to⟩) (A1 := A) h rfl]; exact if_pos rfl
end Go.Proofs.YtidoidoelgfnaaaGreatDoor.SL
