import Derived.Test.YtidoidoelgfnaaaDoorKcl
import Derived.Test.YtidoidoelgfnaaaDoorKc
import Derived.Test.YtidoidoelgfnaaaDoorKb
/- The reference: deletes, points within. -/
namespace Go.Proofs.YtidoidoelgfnaaaDoor.SL
open Go.RowKit Go.Proofs.YtidoidoelgfnaaaDoor
open Go.Proofs.YtidoidoelgfnaaaDoorW.PrintLast (rtab opsOf)
set_option linter.unusedVariables false
set_option linter.unusedSimpArgs false

theorem own_eqM {B w : World} {L : List HP} {a : Option Addr} {n n' cap t k : Nat} {l l' : List Value} (h : St B (own a n cap t k l :: L) w) (e : n = n') (e2 : l = l') : St B (own a n' cap t k l' :: L) w := by subst e; subst e2; exact h
theorem all_dropM {p : Value → Bool} {l : List Value} {n : Nat} (h : l.all p = true) : (l.drop n).all p = true := List.all_eq_true.2 fun x hx => List.all_eq_true.1 h x (List.mem_of_mem_drop hx)
theorem Rd.dropM {w : World} {a : Option Addr} {n i c k : Nat} {l : List Value} (h : Rd w a n k l) (hi : i ≤ n) (hc : n ≤ c) : Rd w (if c = i then a else a.map (·.add (i * k))) (n - i) k (l.drop (i * k)) := by
  have e : (n - i) * k = n * k - i * k := Nat.sub_mul ..
  have hle : i * k ≤ n * k := Nat.mul_le_mul_right _ hi
  refine ⟨by rw [List.length_drop, h.1, e], fun hp => ?_, fun j hj => ?_⟩
  · obtain ⟨⟨b, o, sp⟩, rfl, hs⟩ := h.2.1 (by omega)
    simp only at hs; subst hs
    rw [if_neg (by omega), Option.map_some, Go.WideShapes.add_plain]
    exact ⟨_, rfl, rfl⟩
  · have hn : 0 < n - i := Nat.pos_of_ne_zero fun h0 => by rw [h0, Nat.zero_mul] at hj; exact absurd hj (Nat.not_lt_zero _)
    obtain ⟨⟨b, o, sp⟩, rfl, hs⟩ := h.2.1 (by omega)
    simp only at hs; subst hs
    rw [if_neg (by omega), List.getElem?_drop, ← h.2.2 (i * k + j) (by omega), Option.map_some, Go.WideShapes.add_plain]
    show w.cell? ⟨b, o + i * k + j, none⟩ = w.cell? ⟨b, o + (i * k + j), none⟩
    rw [Nat.add_assoc]
end Go.Proofs.YtidoidoelgfnaaaDoor.SL

/- The reference: rows by their labels. -/
namespace Go.Proofs.YtidoidoelgfnaaaDoor.SL
open Go.RowKit Go.Proofs.YtidoidoelgfnaaaDoor
open Go.Proofs.YtidoidoelgfnaaaDoorW.PrintLast (rtab opsOf)
set_option linter.unusedVariables false
set_option linter.unusedSimpArgs false

end Go.Proofs.YtidoidoelgfnaaaDoor.SL

/- The reference: a row is added. -/
namespace Go.Proofs.YtidoidoelgfnaaaDoor.SL
open Go.RowKit Go.Proofs.YtidoidoelgfnaaaDoor
open Go.Proofs.YtidoidoelgfnaaaDoorW.PrintLast (rtab opsOf)
set_option linter.unusedVariables false
set_option linter.unusedSimpArgs false

end Go.Proofs.YtidoidoelgfnaaaDoor.SL

/- The reference: what is left. -/
namespace Go.Proofs.YtidoidoelgfnaaaDoor.SL
open Go.RowKit Go.Proofs.YtidoidoelgfnaaaDoor
open Go.Proofs.YtidoidoelgfnaaaDoorW.PrintLast (rtab opsOf)
set_option linter.unusedVariables false
set_option linter.unusedSimpArgs false

def rsum : List MRow → Nat
  | [] => 0
  | r :: l => r.pt.l.length + rsum l
end Go.Proofs.YtidoidoelgfnaaaDoor.SL

/- The reference: queries. -/
namespace Go.Proofs.YtidoidoelgfnaaaDoor.SL
open Go.RowKit Go.Proofs.YtidoidoelgfnaaaDoor
open Go.Proofs.YtidoidoelgfnaaaDoorW.PrintLast (rtab opsOf)
set_option linter.unusedVariables false
set_option linter.unusedSimpArgs false

structure MSer where
  lb : SlV Pr
  pt : SlV Pt
def msc (s : MSer) : List Value := [.slice s.lb.a s.lb.l.length s.lb.cap, .slice s.pt.a s.pt.l.length s.pt.cap]
def serA (s : MSer) : HP := .sep (labA s.lb) (ptsA s.pt)
theorem serA_pers (s : MSer) : (serA s).Pers := HP.pers_sep (labA_pers _) (ptsA_pers _)
theorem serA_get {B w : World} {L : List HP} {l : List MSer} {x : MSer} (hx : x ∈ l) (h : St B (allA serA l :: L) w) : St B (labA x.lb :: ptsA x.pt :: allA serA l :: L) w := (allA_get serA_pers hx h).sep
def MSer.p (s : MSer) : SerP := ⟨s.lb.l, s.pt.l⟩
theorem ser_snoc {B w : World} {L : List HP} {l : List MSer} {x : MSer} (h : St B (allA serA l :: labA x.lb :: ptsA x.pt :: L) w) : St B (allA serA (l ++ [x]) :: L) w := by
  have h1 : St B (serA x :: allA serA l :: L) w := (h.permT [1, 1, 0] (L' := labA x.lb :: ptsA x.pt :: allA serA l :: L) rfl).join
  exact allA_snoc (h1.permT [1, 0] rfl)
end Go.Proofs.YtidoidoelgfnaaaDoor.SL

/- Lists of series are compared. -/
namespace Go.Proofs.YtidoidoelgfnaaaDoor.SL
open Go.RowKit Go.Proofs.YtidoidoelgfnaaaDoor
open Go.Proofs.YtidoidoelgfnaaaDoorW.PrintLast (rtab opsOf)
set_option linter.unusedVariables false
set_option linter.unusedSimpArgs false

end Go.Proofs.YtidoidoelgfnaaaDoor.SL
