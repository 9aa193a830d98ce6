/- A map of rows by their keys. -/
import Derived.Test.YtidoidoelgfnaaaGreatDoorKrmM
namespace Go.Proofs.YtidoidoelgfnaaaGreatDoor.SL
open Go.RowKit
set_option linter.unusedVariables false
def ptrG (g : Nat) : Value := .pointer (some ⟨g, 0, none⟩)
def entO (rr : List (Nat × MRow)) : List (List UInt8 × Value) := rr.map fun x => (keyB x.2.lb.l, ptrG x.1)
def entR (gs : List Nat) (S : List MRow) : List (List UInt8 × Value) := entO (gs.zip S)
def findG : List Nat → List MRow → List Pr → Option Nat
  | g :: gs, r :: S, lb => if r.lb.l = lb then some g else findG gs S lb
  | _, _, _ => none
theorem entR_get {lb : List Pr} (hlb : chk lb = true) : ∀ {gs : List Nat} {S : List MRow}, (∀ r ∈ S, chk r.lb.l = true) → getS (entR gs S) (keyB lb) = (findG gs S lb).map ptrG
  | [], [], _ => rfl
  | [], _ :: _, _ => rfl
  | _ :: _, [], _ => rfl
  | g :: gs, r :: S, h => by
    show (if keyB lb = keyB r.lb.l then some (ptrG g) else getS (entR gs S) (keyB lb)) = _
    rw [findG]
    by_cases e : r.lb.l = lb
    · rw [if_pos (by rw [e]), if_pos e]; rfl
    · rw [if_neg (fun k => e (key_inj hlb (h r (by simp)) k).symm), if_neg e]
      exact entR_get hlb fun r hr => h r (by simp [hr])
theorem look_row {lb : List Pr} (hlb : chk lb = true) {gs : List Nat} {S : List MRow} (h : ∀ r ∈ S, chk r.lb.l = true) : (getS (entR gs S) (keyB lb)).getD (Value.pointer none) = Value.pointer ((findG gs S lb).map fun g => ⟨g, 0, none⟩) := by
  rw [entR_get hlb h]
  cases findG gs S lb <;> rfl
theorem findG_some {lb : List Pr} {g : Nat} : ∀ {gs : List Nat} {S : List MRow}, findG gs S lb = some g → ∃ j r, gs[j]? = some g ∧ S[j]? = some r ∧ r.lb.l = lb ∧ ∀ (q : SlV Pt) (t : Int) (ps : List Pt), q.l = r.pt.l ++ ps → (S.set j ⟨r.lb, max r.last t, q⟩).map MRow.p = updF (S.map MRow.p) lb t ps
  | [], S, h => by simp [findG] at h
  | _ :: _, [], h => by simp [findG] at h
  | k :: gs, r :: S, h => by
    rw [findG] at h
    by_cases e : r.lb.l = lb
    · rw [if_pos e] at h; cases h
      refine ⟨0, r, rfl, rfl, e, fun q t ps hq => ?_⟩
      rw [List.map_cons, updF, if_pos (show r.p.lb = lb from e)]
      simp [MRow.p, hq]
    · rw [if_neg e] at h
      obtain ⟨j, r', h1, h2, h3, h4⟩ := findG_some h
      refine ⟨j + 1, r', by simpa using h1, by simpa using h2, h3, fun q t ps hq => ?_⟩
      rw [List.set_cons_succ, List.map_cons, List.map_cons, updF, if_neg (show ¬ r.p.lb = lb from e), h4 q t ps hq]
theorem findG_none {lb : List Pr} : ∀ {gs : List Nat} {S : List MRow}, gs.length = S.length → findG gs S lb = none → ∀ r ∈ S, r.lb.l ≠ lb
  | [], [], _, _, r, hr => by cases hr
  | [], _ :: _, h, _, _, _ => by simp at h
  | _ :: _, [], h, _, _, _ => by simp at h
  | k :: gs, r :: S, hl, h, x, hx => by
    rw [findG] at h
    by_cases e : r.lb.l = lb
    · rw [if_pos e] at h; cases h
    · rw [if_neg e] at h
      rcases List.mem_cons.1 hx with hx | hx
      · rw [hx]; exact e
      · exact findG_none (by simpa using hl) h x hx
theorem upd_new {lb : SlV Pr} {t : Int} {z : SlV Pt} : ∀ {S : List MRow}, (∀ r ∈ S, r.lb.l ≠ lb.l) → ∀ (q : SlV Pt) (ps : List Pt), q.l = ps → ((S ++ [(⟨lb, t, z⟩ : MRow)]).set S.length (⟨lb, max t t, q⟩ : MRow)).map MRow.p = updF (S.map MRow.p) lb.l t ps
  | [], _, q, ps, hq => by simp [updF, MRow.p, hq, Int.max_self]
  | r :: S, h, q, ps, hq => by
    rw [List.cons_append, List.length_cons, List.set_cons_succ, List.map_cons, List.map_cons, updF, if_neg (show ¬ r.p.lb = lb.l from h r (by simp)), upd_new (z := z) (fun r hr => h r (by simp [hr])) q ps hq]
theorem entR_snoc {gs : List Nat} {S : List MRow} (h : gs.length = S.length) (g : Nat) (r : MRow) : entR (gs ++ [g]) (S ++ [r]) = entR gs S ++ [(keyB r.lb.l, ptrG g)] := by
  unfold entR entO; rw [List.zip_append h]; simp
theorem putS_new {k : List UInt8} {v : Value} : ∀ {es : List (List UInt8 × Value)}, getS es k = none → putS es k v = es ++ [(k, v)]
  | [], _ => rfl
  | (q, u) :: l, h => by
    rw [getS] at h
    by_cases e : k = q
    · rw [if_pos e] at h; cases h
    · rw [if_neg e] at h; rw [putS, if_neg e, putS_new h]; rfl
theorem entR_set {gs : List Nat} {S : List MRow} {j : Nat} {r r' : MRow} (h : S[j]? = some r) (e : r'.lb.l = r.lb.l) : entR gs (S.set j r') = entR gs S := by
  induction S generalizing gs j with
  | nil => simp at h
  | cons z S ih => cases gs with
    | nil => rfl
    | cons g gs => cases j with
      | zero => simp at h; subst h; simp [entR, entO, e]
      | succ j =>
        have := ih (gs := gs) (j := j) (by simpa using h)
        simp only [entR, entO] at this ⊢
        simp [this]
section
variable {B w : World} {L : List HP} {tR tP : TypeId}
def celR (tR : TypeId) (g : Nat) (r : MRow) : HP := cel g (mrc r) tR
theorem rw_open {g : Nat} {r : MRow} (h : St B (rwA tR tP g r :: L) w) : St B (cel g (mrc r) tR :: labA r.lb :: own r.pt.a r.pt.l.length r.pt.cap tP 2 (r.pt.l.flatMap ptc) :: L) w := by
  have h1 := h.sep
  have h2 := (h1.permT [1, 0] (L' := .sep (labA r.lb) (own r.pt.a r.pt.l.length r.pt.cap tP 2 (r.pt.l.flatMap ptc)) :: cel g (mrc r) tR :: L) rfl).sep
  exact h2.permT [2, 0, 0] rfl
theorem rw_shut {g : Nat} {r : MRow} (h : St B (cel g (mrc r) tR :: labA r.lb :: own r.pt.a r.pt.l.length r.pt.cap tP 2 (r.pt.l.flatMap ptc) :: L) w) : St B (rwA tR tP g r :: L) w := by
  have h1 := (h.permT [1, 1, 0] (L' := labA r.lb :: own r.pt.a r.pt.l.length r.pt.cap tP 2 (r.pt.l.flatMap ptc) :: cel g (mrc r) tR :: L) rfl).join
  exact (h1.permT [1, 0] (L' := cel g (mrc r) tR :: .sep (labA r.lb) (own r.pt.a r.pt.l.length r.pt.cap tP 2 (r.pt.l.flatMap ptc)) :: L) rfl).join
theorem rows_seal : ∀ {gs : List Nat} {S : List MRow} {L : List HP}, St B (sqA (rwA tR tP) gs S :: L) w → St B (sqA (celR tR) gs S :: allA mrA S :: L) w
  | [], [], L, h => h.addPure trivial
  | [], _ :: _, L, h => h.pure.1.elim
  | _ :: _, [], L, h => h.pure.1.elim
  | g :: gs, r :: S, L, h => by
    have h1 := rw_open h.sep
    have h2 : St B (ptsA r.pt :: cel g (mrc r) tR :: labA r.lb :: sqA (rwA tR tP) gs S :: L) w := rdH_own (h1.permT [2, 0, 0, 0] rfl)
    have h3 := rows_seal (h2.permT [3, 0, 0, 0] (L' := sqA (rwA tR tP) gs S :: ptsA r.pt :: cel g (mrc r) tR :: labA r.lb :: L) rfl)
    have h4 : St B (mrA r :: sqA (celR tR) gs S :: allA mrA S :: cel g (mrc r) tR :: L) w := (h3.permT [4, 2, 0, 0, 0] (L' := labA r.lb :: ptsA r.pt :: sqA (celR tR) gs S :: allA mrA S :: cel g (mrc r) tR :: L) rfl).join
    have h5 : St B (allA mrA (r :: S) :: sqA (celR tR) gs S :: cel g (mrc r) tR :: L) w := (h4.permT [0, 1, 0, 0] (L' := mrA r :: allA mrA S :: sqA (celR tR) gs S :: cel g (mrc r) tR :: L) rfl).join
    exact ((h5.permT [2, 1, 0] (L' := celR tR g r :: sqA (celR tR) gs S :: allA mrA (r :: S) :: L) rfl).join)
end
theorem ent_step {rst pre post : List (List UInt8 × Value)} {k : List UInt8} {v : Value} {rr : List (Nat × MRow)} (h : rst.Perm (entO rr)) (e : rst = pre ++ (k, v) :: post) : ∃ x rr2, rr.Perm (x :: rr2) ∧ v = ptrG x.1 ∧ (pre ++ post).Perm (entO rr2) := by
  subst e
  have hm : (k, v) ∈ entO rr := h.subset (by simp)
  unfold entO at hm
  obtain ⟨x, hx, he⟩ := List.mem_map.1 hm
  obtain ⟨s, t, rfl⟩ := List.append_of_mem hx
  refine ⟨x, s ++ t, List.perm_middle, (congrArg Prod.snd he).symm, ?_⟩
  have h1 : ((k, v) :: (pre ++ post)).Perm ((k, v) :: entO (s ++ t)) := by
    refine (List.perm_middle.symm.trans h).trans ?_
    unfold entO
    rw [List.map_append, List.map_cons, he, List.map_append]
    exact List.perm_middle
  exact h1.cons_inv
theorem zip_at {gs : List Nat} {S : List MRow} {x : Nat × MRow} (h : x ∈ gs.zip S) : ∃ j : Nat, gs[j]? = some x.1 ∧ S[j]? = some x.2 := by
  obtain ⟨j, hj⟩ := List.mem_iff_getElem?.1 h
  rw [List.getElem?_zip_eq_some] at hj
  exact ⟨j, hj.1, hj.2⟩
theorem zip_snd {gs : List Nat} {S : List MRow} (h : gs.length = S.length) : (gs.zip S).map (·.2) = S := by
  rw [← List.unzip_snd, List.unzip_zip h]
end Go.Proofs.YtidoidoelgfnaaaGreatDoor.SL
