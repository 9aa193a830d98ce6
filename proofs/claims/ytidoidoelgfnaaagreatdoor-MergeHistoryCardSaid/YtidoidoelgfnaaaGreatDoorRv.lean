/- Records and labels in memory that are only read. -/
import Derived.Test.YtidoidoelgfnaaaGreatDoorSl13
import Derived.Test.YtidoidoelgfnaaaGreatDoorXr
import Derived.Test.YtidoidoelgfnaaaGreatDoorKmM
namespace Go.Proofs.YtidoidoelgfnaaaGreatDoor.SL
open Go.RowKit
set_option linter.unusedVariables false
set_option linter.unusedSimpArgs false
section
variable {B w : World} {L : List HP}
/-- A row that is never written any more. -/
def rdH (a : Option Addr) (n k : Nat) (l : List Value) : HP := if n = 0 then .pure (l = []) else match a with
  | none => .pure False
  | some p => .ex fun o : Obj => .sep (.pure (∀ w : World, w.heap[p.block]? = some o → Rd w (some p) n k l)) (.seal p.block o)
theorem rdH_pers (a : Option Addr) (n k : Nat) (l : List Value) : (rdH a n k l).Pers := by
  unfold rdH
  split
  · exact HP.pers_pure _
  · cases a with
    | none => exact HP.pers_pure _
    | some p => exact HP.pers_ex fun _ => HP.pers_sep (HP.pers_pure _) (HP.pers_seal _ _)
theorem rdH_rd {a : Option Addr} {n k : Nat} {l : List Value} (h : St B (rdH a n k l :: L) w) : Rd w a n k l := by
  unfold rdH at h
  split at h
  · rename_i h0
    have h1 := h.pure.1
    subst h0; subst h1
    exact ⟨by simp, fun h => by omega, fun j hj => by omega⟩
  · cases a with
    | none => exact h.pure.1.elim
    | some p =>
      obtain ⟨o, h1⟩ := h.ex
      obtain ⟨h2, h3⟩ := h1.sep.pure
      exact h2 w h3.sealed
theorem cell_same {w w' : World} {b : Nat} (h : w'.heap[b]? = w.heap[b]?) (o : Nat) : w'.cell? ⟨b, o, none⟩ = w.cell? ⟨b, o, none⟩ := by unfold World.cell?; rw [h]
theorem Rd.block {w w' : World} {p : Addr} {n k : Nat} {l : List Value} (hr : Rd w (some p) n k l) (hn : 0 < n) (h : w'.heap[p.block]? = w.heap[p.block]?) : Rd w' (some p) n k l := by
  obtain ⟨h1, h2, h3⟩ := hr
  obtain ⟨q, hq, hs⟩ := h2 hn
  cases hq
  obtain ⟨b, o, sp⟩ := p
  simp only at hs h; subst hs
  refine ⟨h1, fun _ => ⟨_, rfl, rfl⟩, fun j hj => ?_⟩
  rw [← h3 j hj]
  exact cell_same h (o + j)
theorem rdH_mk {p : Addr} {o : Obj} {n k : Nat} {l : List Value} (hr : Rd w (some p) n k l) (h : St B (.seal p.block o :: L) w) : St B (rdH (some p) n k l :: L) w := by
  unfold rdH
  split
  · rename_i h0
    subst h0
    have := hr.1
    rw [Nat.zero_mul] at this
    exact h.drop.addPure (List.length_eq_zero_iff.1 this)
  · have hat := h.sealed
    exact (St.join (St.addPure (fun w' hw' => hr.block (by omega) (by rw [hw', hat])) h)).give o
theorem rdH_zero {a : Option Addr} {k : Nat} {l : List Value} (hl : l = []) (h : St B L w) : St B (rdH a 0 k l :: L) w := by unfold rdH; rw [if_pos rfl]; exact h.addPure hl
theorem rdH_base {a : Option Addr} {n k : Nat} {l : List Value} (hk : 0 < k) (hr : Rd B a n k l) (h : St B L w) : St B (rdH a n k l :: L) w := by
  rcases Nat.eq_zero_or_pos n with h0 | h0
  · subst h0
    have := hr.1
    rw [Nat.zero_mul] at this
    exact rdH_zero (List.length_eq_zero_iff.1 this) h
  · obtain ⟨p, rfl, hs⟩ := hr.2.1 h0
    have hpos : 0 < n * k := Nat.mul_pos h0 hk
    have hc := hr.2.2 0 hpos
    obtain ⟨v, hv⟩ : ∃ v, l[0]? = some v := ⟨_, List.getElem?_eq_getElem (by rw [hr.1]; exact hpos)⟩
    rw [hv] at hc
    obtain ⟨b, o, sp⟩ := p
    simp only at hs; subst hs
    have hb : ∃ ob, B.heap[b]? = some ob := by
      have hc : B.cell? ⟨b, o + 0, none⟩ = some v := hc
      unfold World.cell? at hc
      cases hq : B.heap[b]? with
      | none => simp only [hq] at hc; cases hc
      | some ob => exact ⟨ob, rfl⟩
    obtain ⟨ob, hb⟩ := hb
    refine rdH_mk (o := ob) (St.rdB h hr) (h.base hb)
theorem rdH_own {a : Option Addr} {n cap k : Nat} {t : TypeId} {l : List Value} (h : St B (own a n cap t k l :: L) w) : St B (rdH a n k l :: L) w := by
  have hr := h.own_rd.1
  have h1 := h.own_seal
  cases a with
  | none =>
    obtain ⟨⟨rfl, rfl⟩, h2⟩ := St.pure (show St B (.pure (n = 0 ∧ l = []) :: L) w from h1)
    exact rdH_zero rfl h2
  | some p =>
    obtain ⟨x, h2⟩ := St.ex (show St B (.ex _ :: L) w from h1)
    obtain ⟨_, h3⟩ := h2.sep.pure
    obtain ⟨fr, h4⟩ := St.ex (show St B (.ex _ :: L) w from h3)
    exact rdH_mk hr h4
/-! Labels, records. -/
structure Smp where
  lb : SlV Pr
  t : Int
  v : Int
structure Rcd where
  k : Int
  ss : SlV Smp
  ms : SlV Mt
  fr : Int
  to : Int
def smc (s : Smp) : List Value := [.slice s.lb.a s.lb.l.length s.lb.cap, .int .i64 s.t, .int .u64 s.v]
theorem smc_len (s : Smp) : (smc s).length = 3 := rfl
def labA (p : SlV Pr) : HP := rdH p.a p.l.length 2 (p.l.flatMap prc)
def smsA : List Smp → HP
  | [] => .pure True
  | s :: l => .sep (labA s.lb) (smsA l)
def recA (r : Rcd) : HP := .sep (rdH r.ss.a r.ss.l.length 3 (r.ss.l.flatMap smc)) (.sep (rdH r.ms.a r.ms.l.length 3 (r.ms.l.flatMap mtc)) (smsA r.ss.l))
theorem labA_pers (p : SlV Pr) : (labA p).Pers := rdH_pers _ _ _ _
theorem smsA_pers : ∀ l : List Smp, (smsA l).Pers
  | [] => HP.pers_pure _
  | s :: l => HP.pers_sep (labA_pers _) (smsA_pers l)
theorem recA_pers (r : Rcd) : (recA r).Pers := HP.pers_sep (rdH_pers _ _ _ _) (HP.pers_sep (rdH_pers _ _ _ _) (smsA_pers _))
theorem smsA_get : ∀ {l : List Smp} {i : Nat} {s : Smp} {L : List HP}, l[i]? = some s → St B (smsA l :: L) w → St B (labA s.lb :: smsA l :: L) w
  | [], i, s, L, hi, _ => by simp at hi
  | z :: l, 0, s, L, hi, h => by
    simp at hi; subst hi
    exact ((St.dup (smsA_pers (z :: l)) h).sep.permT [0, 1, 0] (L' := labA z.lb :: smsA (z :: l) :: smsA l :: L) rfl).permT [2, 0, 0] (L' := smsA l :: labA z.lb :: smsA (z :: l) :: L) rfl |>.drop
  | z :: l, i + 1, s, L, hi, h => by
    have h1 := (St.dup (smsA_pers (z :: l)) h).sep.drop
    have h2 := smsA_get (i := i) (by simpa using hi) h1
    exact (h2.permT [1, 0, 0] (L' := smsA l :: labA s.lb :: smsA (z :: l) :: L) rfl).drop
theorem recA_open {r : Rcd} (h : St B (recA r :: L) w) : St B (rdH r.ss.a r.ss.l.length 3 (r.ss.l.flatMap smc) :: rdH r.ms.a r.ms.l.length 3 (r.ms.l.flatMap mtc) :: smsA r.ss.l :: recA r :: L) w := by
  have h1 := (St.dup (recA_pers r) h).sep
  have h2 := (h1.permT [1, 0, 0] (L' := .sep (rdH r.ms.a r.ms.l.length 3 (r.ms.l.flatMap mtc)) (smsA r.ss.l) :: rdH r.ss.a r.ss.l.length 3 (r.ss.l.flatMap smc) :: recA r :: L) rfl).sep
  exact h2.permT [2, 0, 0, 0] rfl
/-- How great a record's parts are. -/
structure SzR (r : Rcd) : Prop where
  ns : r.ss.l.length ≤ 3518437208883
  nm : r.ms.l.length ≤ 3518437208883
  m : SzM r.ms.l
  s : ∀ s ∈ r.ss.l, s.lb.l.length ≤ 4398046511104 ∧ SzP s.lb.l
theorem SzR.nm2 {r : Rcd} (z : SzR r) : r.ms.l.length ≤ 4398046511104 := by have := z.nm; omega
/-- What is wrong with a record. -/
def smsGo : List Smp → Bool
  | [] => true
  | s :: l => chk s.lb.l && smsGo l
def rcheck (r : Rcd) : Int := if r.k = 1 then (if ¬ (r.ms.l.length = 0 ∧ r.fr = 0 ∧ r.to = 0) then 3 else if ¬ (1 ≤ r.ss.l.length ∧ r.ss.l.length ≤ 32) then 2 else if smsGo r.ss.l = true then 0 else 16)
  else if r.k = 2 then (if ¬ r.ss.l.length = 0 then 3 else if ¬ mchk r.ms.l = 0 then mchk r.ms.l else if r.fr ≤ r.to then 0 else 9) else 5
end
end Go.Proofs.YtidoidoelgfnaaaGreatDoor.SL
