import Derived.Test.YtidoidoelgfnaaaGreatDoorKcl
import Derived.Test.YtidoidoelgfnaaaGreatDoorKc
import Derived.Test.YtidoidoelgfnaaaGreatDoorKb
/- The reference: deletes, points within. -/
namespace Go.Proofs.YtidoidoelgfnaaaGreatDoor.SL
open Go.RowKit Go.Proofs.YtidoidoelgfnaaaGreatDoor
open Go.Proofs.YtidoidoelgfnaaaGreatDoorW.PrintLast (rtab opsOf)
set_option linter.unusedVariables false
set_option linter.unusedSimpArgs false

theorem own_eqM {B w : World} {L : List HP} {a : Option Addr} {n n' cap t k : Nat} {l l' : List Value} (h : St B (own a n cap t k l :: L) w) (e : n = n') (e2 : l = l') : St B (own a n' cap t k l' :: L) w := by subst e; subst e2; exact h
theorem all_takeM {p : Value → Bool} {l : List Value} {n : Nat} (h : l.all p = true) : (l.take n).all p = true := List.all_eq_true.2 fun x hx => List.all_eq_true.1 h x (List.mem_of_mem_take hx)
theorem all_dropM {p : Value → Bool} {l : List Value} {n : Nat} (h : l.all p = true) : (l.drop n).all p = true := List.all_eq_true.2 fun x hx => List.all_eq_true.1 h x (List.mem_of_mem_drop hx)
theorem Rd.dropM {w : World} {a : Option Addr} {n i c k : Nat} {l : List Value} (h : Rd w a n k l) (hi : i ≤ n) (hc : n ≤ c) : Rd w (if c = i then a else a.map (·.add (i * k))) (n - i) k (l.drop (i * k)) := by
  have e : (n - i) * k = n * k - i * k := Nat.sub_mul ..
  have hle : i * k ≤ n * k := Nat.mul_le_mul_right _ hi
  refine ⟨by rw [List.length_drop, h.1, e], fun hp => ?_, fun j hj => ?_⟩
  · obtain ⟨⟨b, o, sp⟩, rfl, hs⟩ := h.2.1 (by omega)
    simp only at hs; subst hs
    rw [if_neg (by omega), Option.map_some, Go.WideShapes.add_plain]
    exact ⟨_, rfl, rfl⟩
  · have hn : 0 < n - i := Nat.pos_of_ne_zero fun h0 => by rw [h0, Nat.zero_mul] at hj; exact absurd hj (Nat.not_lt_zero _)
    obtain ⟨⟨b, o, sp⟩, rfl, hs⟩ := h.2.1 (by omega)
    simp only at hs; subst hs
    rw [if_neg (by omega), List.getElem?_drop, ← h.2.2 (i * k + j) (by omega), Option.map_some, Go.WideShapes.add_plain]
    show w.cell? ⟨b, o + i * k + j, none⟩ = w.cell? ⟨b, o + (i * k + j), none⟩
    rw [Nat.add_assoc]
theorem take_filter {α : Type} {p : α → Bool} {l : List α} {i : Nat} {x : α} (h : l[i]? = some x) : (l.take (i + 1)).filter p = if p x = true then (l.take i).filter p ++ [x] else (l.take i).filter p := by
  rw [List.take_add_one, h, Option.toList_some, List.filter_append, List.filter_cons, List.filter_nil]
  split <;> simp
theorem filter_take_le {α : Type} (p : α → Bool) (l : List α) (i : Nat) : ((l.take i).filter p).length ≤ i := Nat.le_trans (List.length_filter_le _ _) (by rw [List.length_take]; omega)
theorem rms_get {B w : World} {L : List HP} {d : List Rcd} {r : Rcd} (hr : r ∈ d) (h : St B (allA recA d :: L) w) : St B (rdH r.ms.a r.ms.l.length 3 (r.ms.l.flatMap mtc) :: allA recA d :: L) w := by
  have h1 := allA_get recA_pers hr h
  have h2 := recA_open h1
  exact (h2.permT [0, 1, 1] (L' := _::_::_::_::_::L) rfl).drop.drop.drop
def goneR (d : List Rcd) (lb : List Pr) (t : Int) : Bool := d.any fun r => decide (r.fr ≤ t ∧ t ≤ r.to) && isF r.ms.l lb
theorem goneR_eq (d : List Rcd) (lb : List Pr) (t : Int) : goneR d lb t = goneF (d.map Rcd.p) lb t := by unfold goneR goneF; rw [List.any_map]; rfl
end Go.Proofs.YtidoidoelgfnaaaGreatDoor.SL

/- The reference: rows by their labels. -/
namespace Go.Proofs.YtidoidoelgfnaaaGreatDoor.SL
open Go.RowKit Go.Proofs.YtidoidoelgfnaaaGreatDoor
open Go.Proofs.YtidoidoelgfnaaaGreatDoorW.PrintLast (rtab opsOf)
set_option linter.unusedVariables false
set_option linter.unusedSimpArgs false

def atR : List MRow → List Pr → Nat
  | [], _ => 0
  | r :: l, p => if cmpF r.lb.l p < 0 then atR l p + 1 else 0
def hasR (S : List MRow) (p : List Pr) : Bool := match S[atR S p]? with
  | some r => decide (r.lb.l = p)
  | none => false
theorem atR_le : ∀ (S : List MRow) (p : List Pr), atR S p ≤ S.length
  | [], _ => Nat.le_refl _
  | r :: l, p => by rw [atR]; split; (· have := atR_le l p; rw [List.length_cons]; omega); (· exact Nat.zero_le _)
def newR (lb : SlV Pr) (t : Int) : MRow := ⟨lb, t, ⟨none, [], 0⟩⟩
theorem addF_has : ∀ {S : List MRow} {p : List Pr} {r : MRow} {t : Int} {ps : List Pt} {q : SlV Pt}, hasR S p = true → S[atR S p]? = some r → q.l = r.pt.l ++ ps → (S.set (atR S p) ⟨r.lb, max r.last t, q⟩).map MRow.p = addF (S.map MRow.p) p t ps
  | [], p, r, t, ps, q, h, h1, _ => by simp at h1
  | z :: l, p, r, t, ps, q, h, h1, hq => by
    rw [List.map_cons, addF]
    by_cases c : cmpF z.lb.l p < 0
    · have e : atR (z :: l) p = atR l p + 1 := by rw [atR, if_pos c]
      have hh : hasR l p = true := by unfold hasR at h ⊢; rw [e, List.getElem?_cons_succ] at h; exact h
      rw [e, List.getElem?_cons_succ] at h1
      rw [e, List.set_cons_succ, List.map_cons, if_pos (show cmpF z.p.lb p < 0 from c), addF_has hh h1 hq]
    · have e : atR (z :: l) p = 0 := by rw [atR, if_neg c]
      unfold hasR at h
      rw [e] at h h1
      simp at h1; subst h1
      simp at h
      have e2 : cmpF z.p.lb p = 0 := by show cmpF z.lb.l p = 0; rw [h, cmp_self]
      rw [e, if_neg (show ¬ cmpF z.p.lb p < 0 from c), if_pos e2]
      simp [MRow.p, hq]
theorem addF_new : ∀ {S : List MRow} {lb : SlV Pr} {t : Int} {ps : List Pt} {q : SlV Pt}, hasR S lb.l = false → q.l = ps → ((S.take (atR S lb.l) ++ newR lb t :: S.drop (atR S lb.l)).set (atR S lb.l) ⟨lb, max t t, q⟩).map MRow.p = addF (S.map MRow.p) lb.l t ps
  | [], lb, t, ps, q, h, hq => by simp [addF, atR, MRow.p, hq, Int.max_self]
  | z :: l, lb, t, ps, q, h, hq => by
    rw [List.map_cons, addF]
    by_cases c : cmpF z.lb.l lb.l < 0
    · have e : atR (z :: l) lb.l = atR l lb.l + 1 := by rw [atR, if_pos c]
      have hh : hasR l lb.l = false := by unfold hasR at h ⊢; rw [e, List.getElem?_cons_succ] at h; exact h
      rw [e, List.take_succ_cons, List.drop_succ_cons, List.cons_append, List.set_cons_succ, List.map_cons, if_pos (show cmpF z.p.lb lb.l < 0 from c), addF_new hh hq]
    · have e : atR (z :: l) lb.l = 0 := by rw [atR, if_neg c]
      unfold hasR at h
      rw [e] at h
      simp at h
      have e2 : ¬ cmpF z.p.lb lb.l = 0 := fun k => h (cmp_zero k)
      rw [e, if_neg (show ¬ cmpF z.p.lb lb.l < 0 from c), if_neg e2]
      simp [MRow.p, hq, Int.max_self]
theorem has_some {S : List MRow} {p : List Pr} (h : hasR S p = true) : ∃ r, S[atR S p]? = some r := by
  unfold hasR at h
  cases hq : S[atR S p]? with
  | none => rw [hq] at h; cases h
  | some r => exact ⟨r, rfl⟩
theorem maxI (a b : Int) : (if b > a then b else a) = max a b := by rw [Int.max_def]; split <;> split <;> omega
end Go.Proofs.YtidoidoelgfnaaaGreatDoor.SL

/- The reference: a row is added. -/
namespace Go.Proofs.YtidoidoelgfnaaaGreatDoor.SL
open Go.RowKit Go.Proofs.YtidoidoelgfnaaaGreatDoor
open Go.Proofs.YtidoidoelgfnaaaGreatDoorW.PrintLast (rtab opsOf)
set_option linter.unusedVariables false
set_option linter.unusedSimpArgs false

theorem mid_at {S : List MRow} {i : Nat} {z : MRow} (h : i ≤ S.length) : (S.take i ++ z :: S.drop i)[i]? = some z := by
  rw [List.getElem?_append_right (by rw [List.length_take]; omega), List.length_take, Nat.min_eq_left h, Nat.sub_self]; rfl
theorem mid_len {S : List MRow} {i : Nat} {z : MRow} (h : i ≤ S.length) : (S.take i ++ z :: S.drop i).length = S.length + 1 := by
  rw [List.length_append, List.length_cons, List.length_take, List.length_drop]; omega
end Go.Proofs.YtidoidoelgfnaaaGreatDoor.SL

/- The reference: what is left. -/
namespace Go.Proofs.YtidoidoelgfnaaaGreatDoor.SL
open Go.RowKit Go.Proofs.YtidoidoelgfnaaaGreatDoor
open Go.Proofs.YtidoidoelgfnaaaGreatDoorW.PrintLast (rtab opsOf)
set_option linter.unusedVariables false
set_option linter.unusedSimpArgs false

def rsum : List MRow → Nat
  | [] => 0
  | r :: l => r.pt.l.length + rsum l
def ptot : List BlkV → Nat
  | [] => 0
  | b :: l => rsum b.rs.l + ptot l
def rtot : List BlkV → Nat
  | [] => 0
  | b :: l => b.rs.l.length + rtot l
def dtot : List BlkV → Nat
  | [] => 0
  | b :: l => b.ds.l.length + dtot l
theorem blA_get {B w : World} {L : List HP} {l : List BlkV} {b : BlkV} (hb : b ∈ l) (h : St B (allA blA l :: L) w) : St B (rsA b.rs :: allA mrA b.rs.l :: dsA b.ds :: allA recA b.ds.l :: allA blA l :: L) w := by
  have h1 := blA_open (allA_get blA_pers hb h)
  exact (h1.permT [4, 0, 0, 0, 0] (L' := _::_::_::_::_::_::L) rfl).drop
theorem recs_app {B w : World} {L : List HP} {d e : List Rcd} (h : St B (allA recA d :: allA recA e :: L) w) : St B (allA recA (d ++ e) :: L) w := allA_app h
def ngone (d : List Rcd) (lb : List Pr) (p : Pt) : Bool := !goneR d lb p.t
theorem dels_p (d : List Rcd) (l : List BlkV) : (d ++ l.flatMap (·.ds.l)).map Rcd.p = d.map Rcd.p ++ (l.map BlkV.p).flatMap (·.dels) := by
  rw [List.map_append, List.map_flatMap, List.flatMap_map]; rfl
theorem dtot_drop : ∀ (l : List BlkV) (i : Nat), dtot (l.drop i) ≤ dtot l
  | [], i => by simp
  | b :: l, 0 => Nat.le_refl _
  | b :: l, i + 1 => by rw [List.drop_succ_cons, dtot]; exact Nat.le_trans (dtot_drop l i) (Nat.le_add_left _ _)
theorem dels_sz {dels : List Rcd} {bs : List BlkV} {i : Nat} {r : Rcd} (hd : ∀ r ∈ dels, SzR r) (hb : ∀ b ∈ bs, SzB b) (h : r ∈ dels ++ (bs.drop i).flatMap (·.ds.l)) : SzR r := by
  rcases List.mem_append.1 h with h | h
  · exact hd r h
  · obtain ⟨b, hb1, hr⟩ := List.mem_flatMap.1 h
    exact (hb b (List.mem_of_mem_drop hb1)).d r hr
end Go.Proofs.YtidoidoelgfnaaaGreatDoor.SL

/- The reference: queries. -/
namespace Go.Proofs.YtidoidoelgfnaaaGreatDoor.SL
open Go.RowKit Go.Proofs.YtidoidoelgfnaaaGreatDoor
open Go.Proofs.YtidoidoelgfnaaaGreatDoorW.PrintLast (rtab opsOf)
set_option linter.unusedVariables false
set_option linter.unusedSimpArgs false

structure MSer where
  lb : SlV Pr
  pt : SlV Pt
def msc (s : MSer) : List Value := [.slice s.lb.a s.lb.l.length s.lb.cap, .slice s.pt.a s.pt.l.length s.pt.cap]
theorem msc_len (s : MSer) : (msc s).length = 2 := rfl
def serA (s : MSer) : HP := .sep (labA s.lb) (ptsA s.pt)
theorem serA_pers (s : MSer) : (serA s).Pers := HP.pers_sep (labA_pers _) (ptsA_pers _)
theorem serA_get {B w : World} {L : List HP} {l : List MSer} {x : MSer} (hx : x ∈ l) (h : St B (allA serA l :: L) w) : St B (labA x.lb :: ptsA x.pt :: allA serA l :: L) w := (allA_get serA_pers hx h).sep
def MSer.p (s : MSer) : SerP := ⟨s.lb.l, s.pt.l⟩
theorem ser_snoc {B w : World} {L : List HP} {l : List MSer} {x : MSer} (h : St B (allA serA l :: labA x.lb :: ptsA x.pt :: L) w) : St B (allA serA (l ++ [x]) :: L) w := by
  have h1 : St B (serA x :: _::L) w := (h.permT [1, 1, 0] (L' := _::_::_::L) rfl).join
  exact allA_snoc (h1.permT [1, 0] rfl)
end Go.Proofs.YtidoidoelgfnaaaGreatDoor.SL

/- Lists of series are compared. -/
namespace Go.Proofs.YtidoidoelgfnaaaGreatDoor.SL
open Go.RowKit Go.Proofs.YtidoidoelgfnaaaGreatDoor
open Go.Proofs.YtidoidoelgfnaaaGreatDoorW.PrintLast (rtab opsOf)
set_option linter.unusedVariables false
set_option linter.unusedSimpArgs false

end Go.Proofs.YtidoidoelgfnaaaGreatDoor.SL
