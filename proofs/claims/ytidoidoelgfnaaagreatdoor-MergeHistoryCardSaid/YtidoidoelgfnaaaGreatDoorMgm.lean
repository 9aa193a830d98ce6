/- Rows of series, blocks in memory. -/
import Derived.Test.YtidoidoelgfnaaaGreatDoorRv
import Derived.Test.YtidoidoelgfnaaaGreatDoorSq
import Derived.Test.YtidoidoelgfnaaaGreatDoorMgp
import Derived.Test.YtidoidoelgfnaaaGreatDoorEnc
namespace Go.Proofs.YtidoidoelgfnaaaGreatDoor.SL
open Go.RowKit
set_option linter.unusedVariables false
section
variable {α : Type} {f : α → HP} {B w : World} {L : List HP}
/-- A row of things that are only read. -/
def allA (f : α → HP) : List α → HP
  | [] => .pure True
  | x :: l => .sep (f x) (allA f l)
theorem allA_pers (hf : ∀ x, (f x).Pers) : ∀ l : List α, (allA f l).Pers
  | [] => HP.pers_pure _
  | x :: l => HP.pers_sep (hf x) (allA_pers hf l)
theorem allA_get (hf : ∀ x, (f x).Pers) : ∀ {l : List α} {x : α} {L : List HP}, x ∈ l → St B (allA f l :: L) w → St B (f x :: allA f l :: L) w
  | [], x, L, hx, _ => by cases hx
  | z :: l, x, L, hx, h => by
    rcases List.mem_cons.1 hx with e | hx
    · subst e
      exact ((St.dup (allA_pers hf (x :: l)) h).sep.permT [0, 1, 0] (L' := f x :: allA f (x :: l) :: allA f l :: L) rfl).permT [2, 0, 0] (L' := allA f l :: f x :: allA f (x :: l) :: L) rfl |>.drop
    · have h1 := (St.dup (allA_pers hf (z :: l)) h).sep.drop
      have h2 := allA_get hf hx h1
      exact (h2.permT [1, 0, 0] (L' := allA f l :: f x :: allA f (z :: l) :: L) rfl).drop
/-- Others out of a row. -/
theorem allA_sub (hf : ∀ x, (f x).Pers) {m : List α} : ∀ {l : List α} {L : List HP}, (∀ x ∈ l, x ∈ m) → St B (allA f m :: L) w → St B (allA f l :: allA f m :: L) w
  | [], L, _, h => h.addPure trivial
  | x :: l, L, hx, h => by
    have h1 := allA_get hf (hx x (by simp)) h
    have h2 := allA_sub hf (l := l) (fun y hy => hx y (by simp [hy])) (h1.permT [1, 0] (L' := allA f m :: f x :: L) rfl)
    exact ((h2.permT [2, 0, 0] (L' := f x :: allA f l :: allA f m :: L) rfl).join)
theorem allA_app {l m : List α} {L : List HP} (h : St B (allA f l :: allA f m :: L) w) : St B (allA f (l ++ m) :: L) w := by
  induction l generalizing L with
  | nil => exact h.drop
  | cons x l ih =>
    have h1 := h.sep
    have h2 := ih (h1.permT [1, 1, 0] (L' := allA f l :: allA f m :: f x :: L) rfl)
    exact (h2.permT [1, 0] (L' := f x :: allA f (l ++ m) :: L) rfl).join
theorem allA_snoc {l : List α} {x : α} {L : List HP} (h : St B (allA f l :: f x :: L) w) : St B (allA f (l ++ [x]) :: L) w := by
  have h1 := h.permT [1, 0] (L' := f x :: allA f l :: L) rfl
  have h2 : St B (.pure True :: f x :: allA f l :: L) w := h1.addPure trivial
  have h3 : St B (allA f [x] :: allA f l :: L) w := (h2.permT [1, 0] (L' := f x :: .pure True :: allA f l :: L) rfl).join
  exact allA_app (h3.permT [1, 0] (L' := allA f l :: allA f [x] :: L) rfl)
end
section
variable {B w : World} {L : List HP}
def ptc (p : Pt) : List Value := [.int .i64 p.t, .int .u64 p.v]
theorem ptc_len (p : Pt) : (ptc p).length = 2 := rfl
structure MRow where
  lb : SlV Pr
  last : Int
  pt : SlV Pt
structure BlkV where
  first : Int
  to : Int
  rs : SlV MRow
  ds : SlV Rcd
def mrc (r : MRow) : List Value := [.slice r.lb.a r.lb.l.length r.lb.cap, .int .i64 r.last, .slice r.pt.a r.pt.l.length r.pt.cap]
theorem mrc_len (r : MRow) : (mrc r).length = 3 := rfl
def rcc (r : Rcd) : List Value := [.int .i64 r.k, .slice r.ss.a r.ss.l.length r.ss.cap, .slice r.ms.a r.ms.l.length r.ms.cap, .int .i64 r.fr, .int .i64 r.to]
theorem rcc_len (r : Rcd) : (rcc r).length = 5 := rfl
def blc (b : BlkV) : List Value := [.int .i64 b.first, .int .i64 b.to, .slice b.rs.a b.rs.l.length b.rs.cap, .slice b.ds.a b.ds.l.length b.ds.cap]
theorem blc_len (b : BlkV) : (blc b).length = 4 := rfl
def ptsA (p : SlV Pt) : HP := rdH p.a p.l.length 2 (p.l.flatMap ptc)
def mrA (r : MRow) : HP := .sep (labA r.lb) (ptsA r.pt)
def rsA (p : SlV MRow) : HP := rdH p.a p.l.length 3 (p.l.flatMap mrc)
def dsA (p : SlV Rcd) : HP := rdH p.a p.l.length 5 (p.l.flatMap rcc)
def blA (b : BlkV) : HP := .sep (rsA b.rs) (.sep (allA mrA b.rs.l) (.sep (dsA b.ds) (allA recA b.ds.l)))
theorem ptsA_pers (p : SlV Pt) : (ptsA p).Pers := rdH_pers _ _ _ _
theorem mrA_pers (r : MRow) : (mrA r).Pers := HP.pers_sep (labA_pers _) (ptsA_pers _)
theorem blA_pers (b : BlkV) : (blA b).Pers := HP.pers_sep (rdH_pers _ _ _ _) (HP.pers_sep (allA_pers mrA_pers _) (HP.pers_sep (rdH_pers _ _ _ _) (allA_pers recA_pers _)))
theorem mrA_get {l : List MRow} {x : MRow} (hx : x ∈ l) (h : St B (allA mrA l :: L) w) : St B (labA x.lb :: ptsA x.pt :: allA mrA l :: L) w := (allA_get mrA_pers hx h).sep
theorem blA_open {b : BlkV} (h : St B (blA b :: L) w) : St B (rsA b.rs :: allA mrA b.rs.l :: dsA b.ds :: allA recA b.ds.l :: blA b :: L) w := by
  have h1 := (St.dup (blA_pers b) h).sep
  have h2 := (h1.permT [1, 0] (L' := .sep (allA mrA b.rs.l) (.sep (dsA b.ds) (allA recA b.ds.l)) :: rsA b.rs :: blA b :: L) rfl).sep
  have h3 := (h2.permT [1, 0, 0] (L' := .sep (dsA b.ds) (allA recA b.ds.l) :: allA mrA b.rs.l :: rsA b.rs :: blA b :: L) rfl).sep
  exact h3.permT [3, 2, 0, 0, 0] rfl
/-! The plain values. -/
def MRow.p (r : MRow) : RowP := ⟨r.lb.l, r.last, r.pt.l⟩
def Smp.p (s : Smp) : List Pr × Int × Int := (s.lb.l, s.t, s.v)
def Rcd.p (r : Rcd) : RcP := ⟨r.k, r.ss.l.map Smp.p, r.ms.l, r.fr, r.to⟩
def BlkV.p (b : BlkV) : BlkP := ⟨b.first, b.to, b.rs.l.map MRow.p, b.ds.l.map Rcd.p⟩
/-! A row that grows: a block with three cells, points of its own. -/
def rwA (tR tP : TypeId) (g : Nat) (r : MRow) : HP := .sep (cel g (mrc r) tR) (.sep (labA r.lb) (own r.pt.a r.pt.l.length r.pt.cap tP 2 (r.pt.l.flatMap ptc)))
/-- What memory has room for. -/
structure MzB (b : BlkV) : Prop where
  nr : b.rs.l.length ≤ 2513169434916
  nd : b.ds.l.length ≤ 1954687338268
  r : ∀ r ∈ b.rs.l, r.lb.l.length ≤ 4398046511104 ∧ r.pt.l.length ≤ 8796093022208 ∧ SzP r.lb.l
  d : ∀ d ∈ b.ds.l, SzR d
theorem smsA_eq : ∀ l : List Smp, smsA l = allA (fun s => labA s.lb) l
  | [] => rfl
  | s :: l => by rw [smsA, allA, smsA_eq l]
theorem smsA_snoc {l : List Smp} {s : Smp} (h : St B (smsA l :: labA s.lb :: L) w) : St B (smsA (l ++ [s]) :: L) w := by
  rw [smsA_eq] at h ⊢; exact allA_snoc (f := fun s : Smp => labA s.lb) (x := s) h
theorem Smp.sz {a b : Smp} (h : a.p = b.p) : a.lb.l = b.lb.l := congrArg Prod.fst h
theorem SzR.of_p {r r' : Rcd} (h : r'.p = r.p) (z : SzR r) : SzR r' := by
  have h1 : r'.ss.l.map Smp.p = r.ss.l.map Smp.p := congrArg RcP.ss h
  have h2 : r'.ms.l = r.ms.l := congrArg RcP.ms h
  refine ⟨?_, by rw [h2]; exact z.nm, by rw [h2]; exact z.m, fun s hs => ?_⟩
  · have := congrArg List.length h1; rw [List.length_map, List.length_map] at this; rw [this]; exact z.ns
  · have : s.p ∈ r.ss.l.map Smp.p := by rw [← h1]; exact List.mem_map.2 ⟨s, hs, rfl⟩
    obtain ⟨s2, hs2, e⟩ := List.mem_map.1 this
    rw [← Smp.sz e]; exact z.s s2 hs2
/-- How great the parts are. -/
structure SzB (b : BlkV) : Prop where
  nr : b.rs.l.length ≤ 2513169434916
  nd : b.ds.l.length ≤ 1954687338268
  r : ∀ r ∈ b.rs.l, r.lb.l.length ≤ 4398046511104 ∧ r.pt.l.length ≤ 4398046511104 ∧ SzP r.lb.l
  d : ∀ d ∈ b.ds.l, SzR d
end
end Go.Proofs.YtidoidoelgfnaaaGreatDoor.SL
