/- Rows of series: in the order of their labels, and in any order; what deletes take away. -/
import Derived.Test.YtidoidoelgfnaaaGreatDoorCmp
namespace Go.Proofs.YtidoidoelgfnaaaGreatDoor.SL
open Go.RowKit
set_option linter.unusedVariables false
structure Pt where
  t : Int
  v : Int
deriving DecidableEq
structure RowP where
  lb : List Pr
  last : Int
  pts : List Pt
structure RcP where
  k : Int
  ss : List (List Pr × Int × Int)
  ms : List Mt
  fr : Int
  to : Int
structure BlkP where
  first : Int
  to : Int
  rows : List RowP
  dels : List RcP
def addF : List RowP → List Pr → Int → List Pt → List RowP
  | [], lb, t, ps => [⟨lb, t, ps⟩]
  | r :: l, lb, t, ps => if cmpF r.lb lb < 0 then r :: addF l lb t ps else if cmpF r.lb lb = 0 then ⟨r.lb, max r.last t, r.pts ++ ps⟩ :: l else ⟨lb, t, ps⟩ :: r :: l
def updF : List RowP → List Pr → Int → List Pt → List RowP
  | [], lb, t, ps => [⟨lb, t, ps⟩]
  | r :: l, lb, t, ps => if r.lb = lb then ⟨r.lb, max r.last t, r.pts ++ ps⟩ :: l else r :: updF l lb t ps
def SrtR (S : List RowP) : Prop := S.Pairwise fun a b => cmpF a.lb b.lb < 0
theorem addF_lb {lb : List Pr} {t : Int} {ps : List Pt} : ∀ {S : List RowP} {x : RowP}, x ∈ addF S lb t ps → x.lb = lb ∨ ∃ y ∈ S, y.lb = x.lb
  | [], x, h => by simp [addF] at h; exact .inl (by rw [h])
  | r :: l, x, h => by
    rw [addF] at h
    split at h
    · rcases List.mem_cons.1 h with e | h
      · exact .inr ⟨r, by simp, by rw [e]⟩
      · rcases addF_lb h with e | ⟨y, hy, e⟩
        · exact .inl e
        · exact .inr ⟨y, by simp [hy], e⟩
    · split at h
      · rcases List.mem_cons.1 h with e | h
        · exact .inr ⟨r, by simp, by rw [e]⟩
        · exact .inr ⟨x, by simp [h], rfl⟩
      · rcases List.mem_cons.1 h with e | h
        · exact .inl (by rw [e])
        · exact .inr ⟨x, h, rfl⟩
theorem addF_srt {lb : List Pr} {t : Int} {ps : List Pt} : ∀ {S : List RowP}, SrtR S → SrtR (addF S lb t ps)
  | [], _ => List.pairwise_singleton _ _
  | r :: l, h => by
    have hh := List.pairwise_cons.1 h
    rw [addF]
    split
    · rename_i hlt
      refine List.pairwise_cons.2 ⟨fun x hx => ?_, addF_srt hh.2⟩
      rcases addF_lb hx with e | ⟨y, hy, e⟩
      · rw [e]; exact hlt
      · rw [← e]; exact hh.1 y hy
    · split
      · exact List.pairwise_cons.2 ⟨hh.1, hh.2⟩
      · rename_i h1 h2
        have hlt : cmpF lb r.lb < 0 := by have := cmp_anti r.lb lb; omega
        refine List.pairwise_cons.2 ⟨fun x hx => ?_, h⟩
        rcases List.mem_cons.1 hx with e | hx
        · rw [e]; exact hlt
        · exact cmp_tr hlt (hh.1 x hx)
theorem addF_split {lb : List Pr} {t : Int} {ps : List Pt} : ∀ {S : List RowP}, SrtR S → (∃ S1 r S2, S = S1 ++ r :: S2 ∧ r.lb = lb ∧ addF S lb t ps = S1 ++ ⟨r.lb, max r.last t, r.pts ++ ps⟩ :: S2) ∨ ((∀ x ∈ S, x.lb ≠ lb) ∧ ∃ S1 S2, S = S1 ++ S2 ∧ addF S lb t ps = S1 ++ ⟨lb, t, ps⟩ :: S2)
  | [], _ => .inr ⟨(fun _ h => by cases h), [], [], rfl, rfl⟩
  | r :: l, h => by
    have hh := List.pairwise_cons.1 h
    rw [addF]
    split
    · rename_i hlt
      rcases addF_split (lb := lb) (t := t) (ps := ps) hh.2 with ⟨S1, q, S2, e1, e2, e3⟩ | ⟨hn, S1, S2, e1, e3⟩
      · exact .inl ⟨r :: S1, q, S2, by rw [e1]; rfl, e2, by rw [e3]; rfl⟩
      · refine .inr ⟨fun x hx => ?_, r :: S1, S2, by rw [e1]; rfl, by rw [e3]; rfl⟩
        rcases List.mem_cons.1 hx with e | hx
        · intro e'; rw [e] at e'; rw [e', cmp_self] at hlt; omega
        · exact hn x hx
    · split
      · rename_i h2; exact .inl ⟨[], r, l, rfl, cmp_zero h2, rfl⟩
      · rename_i h1 h2
        have hlt : cmpF lb r.lb < 0 := by have := cmp_anti r.lb lb; omega
        refine .inr ⟨fun x hx e => ?_, [], r :: l, rfl, rfl⟩
        rcases List.mem_cons.1 hx with e' | hx
        · rw [e'] at e; rw [e, cmp_self] at hlt; omega
        · have := cmp_tr hlt (hh.1 x hx); rw [e, cmp_self] at this; omega
theorem updF_split {lb : List Pr} {t : Int} {ps : List Pt} : ∀ (S : List RowP), (∃ S1 r S2, S = S1 ++ r :: S2 ∧ r.lb = lb ∧ updF S lb t ps = S1 ++ ⟨r.lb, max r.last t, r.pts ++ ps⟩ :: S2) ∨ ((∀ x ∈ S, x.lb ≠ lb) ∧ updF S lb t ps = S ++ [⟨lb, t, ps⟩])
  | [] => .inr ⟨(fun _ h => by cases h), rfl⟩
  | r :: l => by
    rw [updF]
    split
    · rename_i e; exact .inl ⟨[], r, l, rfl, e, rfl⟩
    · rename_i e
      rcases updF_split (lb := lb) (t := t) (ps := ps) l with ⟨S1, q, S2, e1, e2, e3⟩ | ⟨hn, e3⟩
      · exact .inl ⟨r :: S1, q, S2, by rw [e1]; rfl, e2, by rw [e3]; rfl⟩
      · refine .inr ⟨fun x hx => ?_, by rw [e3]; rfl⟩
        rcases List.mem_cons.1 hx with e' | hx
        · rw [e']; exact e
        · exact hn x hx
theorem srt_one {S : List RowP} (h : SrtR S) {a b : RowP} (ha : a ∈ S) (hb : b ∈ S) (e : a.lb = b.lb) : a = b := by
  induction S with
  | nil => cases ha
  | cons r l ih =>
    have hh := List.pairwise_cons.1 h
    rcases List.mem_cons.1 ha with ea | ha'
    · rcases List.mem_cons.1 hb with eb | hb'
      · rw [ea, eb]
      · have := hh.1 b hb'; rw [← ea, e, cmp_self] at this; omega
    · rcases List.mem_cons.1 hb with eb | hb'
      · have := hh.1 a ha'; rw [← eb, e, cmp_self] at this; omega
      · exact ih hh.2 ha' hb'
theorem updF_perm {R S : List RowP} (hs : SrtR S) (hp : R.Perm S) (lb : List Pr) (t : Int) (ps : List Pt) : (updF R lb t ps).Perm (addF S lb t ps) := by
  rcases updF_split (lb := lb) (t := t) (ps := ps) R with ⟨R1, r, R2, e1, e2, e3⟩ | ⟨hn, e3⟩
  · have hr : r ∈ S := hp.subset (by rw [e1]; simp)
    rcases addF_split (lb := lb) (t := t) (ps := ps) hs with ⟨S1, q, S2, f1, f2, f3⟩ | ⟨hm, _⟩
    · have hq : q ∈ S := by rw [f1]; simp
      have : q = r := srt_one hs hq hr (f2.trans e2.symm)
      subst this
      rw [e3, f3]
      have h0 : (q :: (R1 ++ R2)).Perm (q :: (S1 ++ S2)) := (List.perm_middle.symm.trans (e1 ▸ f1 ▸ hp)).trans List.perm_middle
      exact (List.perm_middle.trans ((List.Perm.cons_inv h0).cons _)).trans List.perm_middle.symm
    · exact absurd e2 (hm r hr)
  · rcases addF_split (lb := lb) (t := t) (ps := ps) hs with ⟨S1, q, S2, f1, f2, f3⟩ | ⟨hm, S1, S2, f1, f3⟩
    · exact absurd f2 (hn q (hp.symm.subset (by rw [f1]; simp)))
    · rw [e3, f3]
      exact ((List.perm_append_comm (l₁ := R) (l₂ := [_])).trans ((hp.trans (by rw [f1])).cons _)).trans List.perm_middle.symm
theorem sorted_eq {R S : List RowP} (hs : SrtR S) (hp : R.Perm S) (hr : R.Pairwise fun a b => ¬ cmpF b.lb a.lb < 0) : R = S := by
  refine List.Perm.eq_of_pairwise (le := fun a b : RowP => ¬ cmpF b.lb a.lb < 0) (fun a b ha hb h1 h2 => ?_) hr (hs.imp fun {a b} h => by have := cmp_anti a.lb b.lb; omega) hp
  have e := cmp_anti a.lb b.lb
  exact srt_one hs (hp.subset ha) hb (cmp_zero (by omega))
/-! Points that are picked out. -/
def flt (f : Pt → Bool) (r : RowP) : RowP := ⟨r.lb, r.last, r.pts.filter f⟩
theorem addF_flt (f : Pt → Bool) (lb : List Pr) (t : Int) (ps : List Pt) : ∀ S : List RowP, addF (S.map (flt f)) lb t (ps.filter f) = (addF S lb t ps).map (flt f)
  | [] => rfl
  | r :: l => by
    rw [List.map_cons, addF, addF]
    show (if cmpF r.lb lb < 0 then _ else if cmpF r.lb lb = 0 then _ else _) = _
    split
    · rw [List.map_cons, addF_flt f lb t ps l]
    · split
      · simp [flt]
      · simp [flt]
theorem srt_flt {f : Pt → Bool} {S : List RowP} (h : SrtR S) : SrtR (S.map (flt f)) := List.pairwise_map.2 h
/-- Deletes. -/
def goneF (d : List RcP) (lb : List Pr) (t : Int) : Bool := d.any fun r => decide (r.fr ≤ t ∧ t ≤ r.to) && isF r.ms lb
def rowsA (d : List RcP) : List RowP → List RowP → List RowP
  | [], S => S
  | x :: xs, S => rowsA d xs (addF S x.lb x.last (x.pts.filter fun p => !goneF d x.lb p.t))
def leftA (dels : List RcP) : List BlkP → List RowP → List RowP
  | [], S => S
  | b :: bs, S => leftA dels bs (rowsA (dels ++ bs.flatMap (·.dels)) b.rows S)
def rowsU (f : Pt → Bool) (d : List RcP) : List RowP → List RowP → List RowP
  | [], S => S
  | x :: xs, S => rowsU f d xs (updF S x.lb x.last (x.pts.filter fun p => f p && !goneF d x.lb p.t))
def leftU (f : Pt → Bool) (dels : List RcP) : List BlkP → List RowP → List RowP
  | [], S => S
  | b :: bs, S => leftU f dels bs (rowsU f (dels ++ bs.flatMap (·.dels)) b.rows S)
theorem rowsU_perm {f : Pt → Bool} {d : List RcP} : ∀ {xs R S : List RowP}, SrtR S → R.Perm (S.map (flt f)) → SrtR (rowsA d xs S) ∧ (rowsU f d xs R).Perm ((rowsA d xs S).map (flt f))
  | [], R, S, hs, hp => ⟨hs, hp⟩
  | x :: xs, R, S, hs, hp => by
    rw [rowsA, rowsU]
    refine rowsU_perm (addF_srt hs) ?_
    have h1 := updF_perm (srt_flt (f := f) hs) hp x.lb x.last (x.pts.filter fun p => f p && !goneF d x.lb p.t)
    have h2 : (x.pts.filter fun p => f p && !goneF d x.lb p.t) = (x.pts.filter fun p => !goneF d x.lb p.t).filter f := by rw [List.filter_filter]
    rw [h2, addF_flt] at h1
    rw [h2]; exact h1
theorem leftU_perm {f : Pt → Bool} {dels : List RcP} : ∀ {bs : List BlkP} {R S : List RowP}, SrtR S → R.Perm (S.map (flt f)) → SrtR (leftA dels bs S) ∧ (leftU f dels bs R).Perm ((leftA dels bs S).map (flt f))
  | [], R, S, hs, hp => ⟨hs, hp⟩
  | b :: bs, R, S, hs, hp => by
    rw [leftA, leftU]
    have h := rowsU_perm (d := dels ++ bs.flatMap (·.dels)) (xs := b.rows) hs hp
    exact leftU_perm h.1 h.2
/-- The sorted row of what any order has. -/
theorem left_sorted {f : Pt → Bool} {dels : List RcP} {bs : List BlkP} {R : List RowP} (hp : R.Perm (leftU f dels bs [])) (hr : R.Pairwise fun a b => ¬ cmpF b.lb a.lb < 0) : R = (leftA dels bs []).map (flt f) := by
  have h := leftU_perm (f := f) (dels := dels) (bs := bs) (R := []) (S := []) List.Pairwise.nil (.refl _)
  exact sorted_eq (srt_flt h.1) (hp.trans h.2) hr
/-- What is asked for. -/
def inF (fr to : Int) (p : Pt) : Bool := decide (fr ≤ p.t ∧ p.t ≤ to)
structure SerP where
  lb : List Pr
  pts : List Pt
def qryR (ask : List Mt) (fr to : Int) : List RowP → List SerP
  | [] => []
  | r :: l => if 0 < (r.pts.filter (inF fr to)).length ∧ isF ask r.lb = true then ⟨r.lb, r.pts.filter (inF fr to)⟩ :: qryR ask fr to l else qryR ask fr to l
def qryP (ask : List Mt) : List RowP → List SerP
  | [] => []
  | r :: l => if 0 < r.pts.length ∧ isF ask r.lb = true then ⟨r.lb, r.pts⟩ :: qryP ask l else qryP ask l
theorem qry_flt (ask : List Mt) (fr to : Int) : ∀ S : List RowP, qryP ask (S.map (flt (inF fr to))) = qryR ask fr to S
  | [] => rfl
  | r :: l => by rw [List.map_cons, qryP, qryR, qry_flt ask fr to l]; rfl
end Go.Proofs.YtidoidoelgfnaaaGreatDoor.SL
